/- FnPoints: points of a drawn table lie inside the canvas, one to a row, in the order of their column: the mirrored law answers true. -/
import Derived.Test.YtbknilpmpjjfpaaPointsOfL
import Derived.Test.YtbknilpmpjjfpaaTbL
import Derived.Test.YtbknilpmpjjfpaaLaFnPoints
import Derived.Test.YtbknilpmpjjfpaaMd4
import Derived.Test.YtbknilpmpjjfpaaMd5
set_option linter.unusedSimpArgs false
set_option linter.unusedVariables false
namespace Go.Proofs.Ytbknilpmpjjfpaa
open Go.RowKit Am
theorem lo_le : ∀ (xs : List Int) (z : Int), loOf xs z ≤ z ∧ ∀ x ∈ xs, loOf xs z ≤ x
  | [], z => ⟨Int.le_refl _, by simp⟩
  | x :: xs, z => by
    obtain ⟨h1, h2⟩ := lo_le xs (if x < z then x else z)
    have e : loOf (x :: xs) z = loOf xs (if x < z then x else z) := rfl
    rw [e]
    refine ⟨?_, fun y hy => ?_⟩
    · split at h1 <;> split <;> omega
    · rcases List.mem_cons.1 hy with rfl | hy
      · split at h1 <;> split <;> omega
      · exact h2 y hy
theorem hi_ge : ∀ (xs : List Int) (z : Int), z ≤ hiOf xs z ∧ ∀ x ∈ xs, x ≤ hiOf xs z
  | [], z => ⟨Int.le_refl _, by simp⟩
  | x :: xs, z => by
    obtain ⟨h1, h2⟩ := hi_ge xs (if x > z then x else z)
    have e : hiOf (x :: xs) z = hiOf xs (if x > z then x else z) := rfl
    rw [e]
    refine ⟨?_, fun y hy => ?_⟩
    · split at h1 <;> split <;> omega
    · rcases List.mem_cons.1 hy with rfl | hy
      · split at h1 <;> split <;> omega
      · exact h2 y hy
theorem mul_bd {a h A H : Int} (h0 : 0 ≤ a) (h1 : a ≤ A) (g0 : 0 ≤ h) (g1 : h ≤ H) : 0 ≤ a * h ∧ a * h ≤ A * H :=
  ⟨Int.mul_nonneg h0 g0, Int.mul_le_mul h1 g1 g0 (Int.le_trans h0 h1)⟩
theorem part_eq {a h c d : Int} (h0 : 0 ≤ a) (h1 : a ≤ 2000000000) (g0 : 0 ≤ h) (g1 : h ≤ 1000) (hc : 0 < c) : partV a h c d = a * h / c := by
  unfold partV
  have b := mul_bd h0 h1 g0 g1
  have q0 : 0 ≤ a * h / c := Int.ediv_nonneg b.1 (by omega)
  have q1 : a * h / c ≤ a * h := Int.ediv_le_self _ b.1
  rw [if_neg (by omega), w64 (n := a * h) (by omega) (by omega), Int.tdiv_eq_ediv_of_nonneg b.1, w64 (by omega) (by omega)]
theorem part_in {a h c : Int} (h0 : 0 ≤ a) (h1 : a ≤ c) (hc : c ≤ 2000000000) (g0 : 0 ≤ h) (g1 : h ≤ 1000) : 0 ≤ partV a h c 0 ∧ partV a h c 0 ≤ h := by
  by_cases e : c = 0
  · unfold partV; rw [if_pos e]; omega
  · rw [part_eq h0 (by omega) g0 g1 (by omega)]
    exact ⟨Int.ediv_nonneg (Int.mul_nonneg h0 g0) (by omega), Int.ediv_le_of_le_mul (by omega) (by rw [Int.mul_comm h c]; exact Int.mul_le_mul_of_nonneg_right h1 g0)⟩
theorem part_up {a b h c : Int} (h0 : 0 ≤ a) (hab : a ≤ b) (h1 : b ≤ 2000000000) (g0 : 0 ≤ h) (g1 : h ≤ 1000) (hc : 0 ≤ c) : partV a h c 0 ≤ partV b h c 0 := by
  by_cases e : c = 0
  · unfold partV; rw [if_pos e, if_pos e]; omega
  · rw [part_eq h0 (by omega) g0 g1 (by omega), part_eq (by omega) h1 g0 g1 (by omega)]
    exact Int.ediv_le_ediv (by omega) (Int.mul_le_mul_of_nonneg_right hab g0)
theorem canvas_bd (w h : Int) (hc : canvas w h = true) : (1 ≤ w ∧ w ≤ 1000) ∧ 1 ≤ h ∧ h ≤ 1000 := by simpa [canvas] using hc
theorem col_bd {v : TValue} {i : Int} {r : TRow} (hr : r ∈ v.rows) : loC v i ≤ cellOf i r ∧ cellOf i r ≤ hiC v i :=
  ⟨(lo_le _ _).2 _ (List.mem_map.2 ⟨r, hr, rfl⟩), (hi_ge _ _).2 _ (List.mem_map.2 ⟨r, hr, rfl⟩)⟩
section
variable (v : TValue) (i j w h : Int) (hl : v.rows.length ≤ 1048576) (hi0 : 0 ≤ i) (hc : canvas w h = true) (ci : ∀ r ∈ v.rows, i < r.cells.length)
  (ni : ∀ r ∈ v.rows, -1000000000 ≤ cellOf i r ∧ cellOf i r ≤ 1000000000) (nj : ∀ r ∈ v.rows, -1000000000 ≤ cellOf j r ∧ cellOf j r ≤ 1000000000)
include hl hi0 hc ci ni nj
theorem point_at {r : TRow} (hr : r ∈ v.rows) : (0 ≤ (pointV v i j w h r).x ∧ (pointV v i j w h r).x ≤ w) ∧ (0 ≤ (pointV v i j w h r).y ∧ (pointV v i j w h r).y ≤ h) ∧ ∀ s ∈ v.rows, cellOf i s ≤ cellOf i r → (pointV v i j w h s).x ≤ (pointV v i j w h r).x := by
  have _ := hl; have _ := hi0; have _ := ci
  obtain ⟨⟨w0, w1⟩, k0, k1⟩ := canvas_bd w h hc
  have bi := colC_bd v i ni
  have bj := colC_bd v j nj
  have ei : ∀ s ∈ v.rows, IntKind.i64.wrap (cellOf i s - loC v i) = cellOf i s - loC v i := fun s hs => by have := ni s hs; exact w64 (by omega) (by omega)
  have ej : ∀ s ∈ v.rows, IntKind.i64.wrap (hiC v j - cellOf j s) = hiC v j - cellOf j s := fun s hs => by have := nj s hs; exact w64 (by omega) (by omega)
  have di : IntKind.i64.wrap (hiC v i - loC v i) = hiC v i - loC v i := w64 (by omega) (by omega)
  have dj : IntKind.i64.wrap (hiC v j - loC v j) = hiC v j - loC v j := w64 (by omega) (by omega)
  have c1 := col_bd (i := i) hr
  have c2 := col_bd (i := j) hr
  have n1 := ni r hr
  refine ⟨?_, ?_, fun s hs hle => ?_⟩
  · simp only [pointV]; rw [ei r hr, di]; exact part_in (by omega) (by omega) (by omega) (by omega) w1
  · simp only [pointV]; rw [ej r hr, dj]; exact part_in (by omega) (by omega) (by omega) (by omega) k1
  · have c3 := col_bd (i := i) hs
    simp only [pointV]; rw [ei r hr, ei s hs, di]; exact part_up (by omega) (by omega) (by omega) (by omega) w1 (by omega)
theorem inside_pts {k : Nat} (hk : 1048700 < k) : i_IsInside k ⟨w, h, v.rows.map (pointV v i j w h)⟩ = some true := by
  obtain ⟨⟨w0, w1⟩, k0, k1⟩ := canvas_bd w h hc
  have hln : (v.rows.map (pointV v i j w h)).length = v.rows.length := by simp
  have key := loopE (fun n (_ : Unit) a => i_IsInside_u1 ⟨w, h, v.rows.map (pointV v i j w h)⟩ n a) (fun _ => ()) (some (.inl ())) v.rows.length
    (fun n a ha => by
      obtain ⟨g1, g2, _⟩ := point_at v i j w h hl hi0 hc ci ni nj (List.getElem_mem ha)
      have ea : (v.rows.map (pointV v i j w h))[a]? = some (pointV v i j w h v.rows[a]) := by simp [ha]
      try simp only
      rw [i_IsInside_u1]
      simp only [hln]
      rw [if_pos (lt_yes ha), at_nat, ea]
      have hw0 : (pointV v i j w h v.rows[a]).w = 0 := rfl
      have hh0 : (pointV v i j w h v.rows[a]).h = 0 := rfl
      revert g1 g2 hw0 hh0
      generalize pointV v i j w h v.rows[a] = m
      rintro ⟨g1, g2⟩ ⟨g3, g4⟩ hw0 hh0
      have d1 : decide (m.x < 0) = false := by simp; omega
      have d2 : decide (m.y < 0) = false := by simp; omega
      have d3 : decide (m.w < 0) = false := by simp; omega
      have d4 : decide (m.h < 0) = false := by simp; omega
      have e1 : IntKind.i64.wrap (m.x + m.w) = m.x + m.w := w64 (by omega) (by omega)
      have e2 : IntKind.i64.wrap (m.y + m.h) = m.y + m.h := w64 (by omega) (by omega)
      have d5 : decide (w < m.x + m.w) = false := by simp; omega
      have d6 : decide (h < m.y + m.h) = false := by simp; omega
      simp only [Option.bind_some, d1, d2, d3, d4, e1, e2, d5, d6, wS a (by omega)]
      rfl)
    (fun n => by
      try simp only
      rw [i_IsInside_u1]
      simp only [hln]
      rw [if_neg (lt_no (Nat.le_refl _))]) (k := k) (by omega)
  unfold i_IsInside
  rw [key]
  have d1 : decide (0 ≤ w) = true := by simp; omega
  have d2 : decide (0 ≤ h) = true := by simp; omega
  simp [d1, d2]
  try omega
theorem order_ok (x y : ByteArray) (sc : TScene × Bool) (hsc : sc.1.marks = v.rows.map (pointV v i j w h)) (a : Nat) (ha : a < v.rows.length) {k m : Nat} (hk : 1048700 < k) (hm : 1048700 < m) (hidx : s_ColumnIndex k v x = some i) : w_FnPoints_u2 k (v, x, y, w, h) sc a (cellOf i v.rows[a]) m 0 = some (.inl ()) := by
  exact loopE (fun n (_ : Unit) b => w_FnPoints_u2 k (v, x, y, w, h) sc a (cellOf i v.rows[a]) n b) (fun _ => ()) (some (.inl ())) a
    (fun n b hb => by
      have hbl : b < v.rows.length := by omega
      try simp only
      rw [w_FnPoints_u2]
      simp only [hsc]
      rw [if_pos (lt_yes hb), at_in hbl, Option.bind_some, hidx, Option.bind_some, at_cell hi0 (ci _ (List.getElem_mem hbl)), Option.bind_some, at_nat, at_nat]
      have e1 : (v.rows.map (pointV v i j w h))[b]? = some (pointV v i j w h v.rows[b]) := by simp [hbl]
      have e2 : (v.rows.map (pointV v i j w h))[a]? = some (pointV v i j w h v.rows[a]) := by simp [ha]
      rw [e1, e2]
      simp only [Option.bind_some, wS b (by omega)]
      by_cases c1 : cellOf i v.rows[b] ≤ cellOf i v.rows[a]
      · have g := (point_at v i j w h hl hi0 hc ci ni nj (List.getElem_mem ha)).2.2 _ (List.getElem_mem hbl) c1
        have d : decide ((pointV v i j w h v.rows[a]).x < (pointV v i j w h v.rows[b]).x) = false := by simp; omega
        simp only [c1, d, decide_true, if_true, Option.bind_some]; rfl
      · simp only [c1, decide_false]; rfl)
    (fun n => by
      try simp only
      rw [w_FnPoints_u2, if_neg (lt_no (Nat.le_refl _))]) (k := m) (by omega)
theorem pts_ok (x y : ByteArray) (sc sd : TScene × Bool) (hsc : sc.1.marks = v.rows.map (pointV v i j w h)) (hsd : sd.1.marks = v.rows.map (pointV v i j w h)) {k : Nat} (hk : 1048700 < k) (hidx : s_ColumnIndex k v x = some i) : w_FnPoints_u1 k (v, x, y, w, h) sc sd k 0 = some (.inl ()) := by
  have hln : (v.rows.map (pointV v i j w h)).length = v.rows.length := by simp
  exact loopE (fun n (_ : Unit) a => w_FnPoints_u1 k (v, x, y, w, h) sc sd n a) (fun _ => ()) (some (.inl ())) v.rows.length
    (fun n a ha => by
      try simp only
      rw [w_FnPoints_u1]
      simp only [hsc, hsd, hln]
      have e2 : (v.rows.map (pointV v i j w h))[a]? = some (pointV v i j w h v.rows[a]) := by simp [ha]
      rw [if_pos (lt_yes ha), at_nat, e2]
      simp only [Option.bind_some, decide_true, Bool.and_self, Bool.not_true, Bool.false_eq_true, if_false]
      rw [at_in ha, Option.bind_some, hidx, Option.bind_some, at_cell hi0 (ci _ (List.getElem_mem ha)), Option.bind_some, order_ok v i j w h hl hi0 hc ci ni nj x y sc hsc a ha hk hk hidx]
      simp only [Option.bind_some, wS a (by omega)])
    (fun n => by
      try simp only
      rw [w_FnPoints_u1]
      simp only [hsc, hln]
      rw [if_neg (lt_no (Nat.le_refl _))]) (k := k) (by omega)
end
theorem draw_points (a : List Int) (ha : a.length ≤ 1048576) : Tot (fun r : TValue × ByteArray × ByteArray × Int × Int => r.1.bk ≤ 1048576) fun k => s_DrawPointsOf k a := by
  unfold s_DrawPointsOf
  exact .bind (new_tot a ha) fun c hc => .bind (small7_tot hc) fun v hv => .bind (pick_tot _ hv.2 (by simp)) fun x hx => .bind (pick_tot _ hx.2 (by simp)) fun y hy => .bind (pickInt_tot _ hy.2 (by simp)) fun w hw => .bind (pickInt_tot _ hw.2 (by simp)) fun h hh => .ret (by have := hv.1; simp only; omega)
theorem FnPoints_law (a : List Int) (_h : DOk (.sl (a.map uC))) : ∃ k, w_FnPoints k a = some true := by
  by_cases hb : 1048576 < (a.length : Int)
  · exact ⟨0, by unfold w_FnPoints w_big; simp [hb]⟩
  obtain ⟨⟨v, x, y, w, h⟩, hv, hd⟩ := draw_points a (by omega)
  simp only at hv
  have sm := TValue.small hv
  have hl := sm.rows
  have hcl := sm.cols
  obtain ⟨r, hr, he⟩ := PointsOf_agreeV v hv x y w h
  have eS : ∀ k, 1048701 ≤ k → s_ColumnIndex k v x = some (cidx v x) := fun k hk => by unfold s_ColumnIndex; rw [s_index _ _ (by omega) (by omega)]; rfl
  refine Ev.get (((hd.and he).and (Ev.ge 1048701)).mono ?_)
  rintro k ⟨⟨d, e1, e2⟩, hk⟩
  unfold w_FnPoints w_big
  simp only [hb, decide_false, Option.bind_some, d, e1, e2]
  rcases hr with ⟨rfl, hc, hx0, hy0, ht⟩ | rfl
  · have bx := (find1_bd (fun z => decide (z = x)) v.columns).2
    have bY := (find1_bd (fun z => decide (z = y)) v.columns).2
    change cidx v x < _ at bx
    change cidx v y < _ at bY
    have ci : ∀ r ∈ v.rows, cidx v x < r.cells.length := fun r hr => by have := (row_ok ht hr).1; omega
    have cj : ∀ r ∈ v.rows, cidx v y < r.cells.length := fun r hr => by have := (row_ok ht hr).1; omega
    have ni : ∀ r ∈ v.rows, -1000000000 ≤ cellOf (cidx v x) r ∧ cellOf (cidx v x) r ≤ 1000000000 := fun r hr => cell_bd (row_ok ht hr).2 hx0 (ci r hr)
    have nj : ∀ r ∈ v.rows, -1000000000 ≤ cellOf (cidx v y) r ∧ cellOf (cidx v y) r ≤ 1000000000 := fun r hr => cell_bd (row_ok ht hr).2 hy0 (cj r hr)
    have f1 := pts_ok v (cidx v x) (cidx v y) w h hl hx0 hc ci ni nj x y (⟨w, h, v.rows.map (pointV v (cidx v x) (cidx v y) w h)⟩, true) (⟨w, h, v.rows.map (pointV v (cidx v x) (cidx v y) w h)⟩, true) rfl rfl (k := k) (by omega) (eS k hk)
    have f2 := inside_pts v (cidx v x) (cidx v y) w h hl hx0 hc ci ni nj (k := k) (by omega)
    have hln : (v.rows.map (pointV v (cidx v x) (cidx v y) w h)).length = v.rows.length := by simp
    simp only [f1, f2, hln, Option.bind_some]
    simp
  · have hz : (⟨0, 0, []⟩ : TScene).marks = [] := rfl
    obtain ⟨n, rfl⟩ : ∃ n, k = n + 1 := ⟨k - 1, by omega⟩
    simp [w_FnPoints_u1]
end Go.Proofs.Ytbknilpmpjjfpaa
