/- ShownCells: both sides list the cells' numbers. -/
import Derived.Test.YtopjlbifglacpaaSzLine
import Derived.Test.YtopjlbifglacpaaToLine
import Derived.Test.YtopjlbifglacpaaEqLine
import Derived.Test.YtopjlbifglacpaaEqInt
import Derived.Test.YtopjlbifglacpaaMkLine
import Derived.Test.YtopjlbifglacpaaMkInt
namespace Go.Proofs.Ytopjlbifglacpaa
open Go.RowKit

def shownCells (xs : List TLine) : List Int := xs.map TLine.cell
theorem shownCells_cn (xs : List TLine) (h : xs.length + bkL (xs.map TLine.d) ≤ 1048576) : 1 + ((intCnL (shownCells xs) : Nat) : Int) ≤ 1099511627776 := by
  have := intCnL_le (shownCells xs)
  have hb : bkL ((shownCells xs).map D.int) = 0 := by
    generalize shownCells xs = l
    induction l with
    | nil => rfl
    | cons x l ih => simp only [List.map_cons, bkL, bk, ih]
  have hl : (shownCells xs).length = xs.length := List.length_map _
  omega

theorem bld_empty (w : World) (E W : Nat) : Bld w.heap.size E W (w.alloc (.cells #[] E)) (.slice (some ⟨w.heap.size, 0, none⟩) 0 0) [] [] :=
  ⟨⟨[], World.ownsRow_made w #[] 0 (Nat.le_refl _) (by decide) (by simp), mk_nil⟩, Fr.nil _ _, by simp⟩
theorem bgrown {a w w2 : World} {row : Option Nat} (h : Below a.heap.size a w) (hg : w.grownBy w2 row) (hr : ∀ k, row = some k → a.heap.size ≤ k) : Below a.heap.size a w2 :=
  ⟨hg.os.trans h.os, hg.tape.trans h.tape, hg.output.trans h.output, Nat.le_trans h.size hg.size, fun b hb => (hg.block b (Nat.lt_of_lt_of_le hb h.size) (fun e => by have := hr b e.symm; omega)).trans (h.block b hb)⟩
theorem src_one {w : World} {b : Nat} {cs : List Value} {d : D} {F : List Nat} {t : TypeId} (h : Rep (w.alloc (.cells cs.toArray t)) d cs F) (hb : b = w.heap.size) : Src (w.alloc (.cells cs.toArray t)) (some ⟨b, 0, none⟩) 1 [d] cs F := by
  subst hb
  refine ⟨rfl, repL_of (mk_cons h mk_nil) (by simp) (by simp), .inr ⟨_, 0, rfl, ?_⟩⟩
  intro j u hu
  rw [Nat.zero_add]
  exact cell_new w _ _ j u (by simpa using hu)

set_option maxHeartbeats 2000000 in
set_option maxRecDepth 100000 in
theorem specShownCells_any (w : World) (v : Value) (xs : List TLine) (F : List Nat) (h : SlAt w v (xs.map TLine.d) F) (hb : xs.length + bkL (xs.map TLine.d) ≤ 1048576) :
    Calls Try.prog 27 #[v] w fun e w' => ∃ (A' : Option Addr) (c' : Nat) (F' : List Nat), e = .returned (.slice A' (shownCells xs).length c') ∧ SlAt w' (.slice A' (shownCells xs).length c') ((shownCells xs).map D.int) F' ∧ Fr w.heap.size w' F' ∧ Below w.heap.size w w' := by
  obtain ⟨A, c, rfl, hn, hc⟩ := h.form
  rw [List.length_map] at hn h ⊢
  go_enter Try.func27, Try.ntmps27
  go_wp2_with fail
  go_loopw [3, 4] (fun o i wr => ∃ k : Nat, k ≤ xs.length ∧ i = .int .i64 k ∧ Bld w.heap.size 3 1 wr o ((shownCells (xs.take k)).map D.int) [] ∧ Below w.heap.size w wr) (fun _ i _ => xs.length - (intOf i).toNat)
  case atStart => exact ⟨0, Nat.zero_le _, rfl, bld_empty w 3 1, bnew (Below.refl _ _) _⟩
  case round =>
    obtain ⟨k, hk, rfl, hB, hbe⟩ := hrel
    obtain ⟨A', c', rfl⟩ := hB.form
    have el : ((shownCells (xs.take k)).map D.int).length = k := by rw [List.length_map]; unfold shownCells; rw [List.length_map, List.length_take]; omega
    rw [el] at hB ⊢
    by_cases hlt : k < xs.length
    · obtain ⟨b, off, ys, Fi, rfl, hbl, _, hr, hlen, _, hcell⟩ := (h.below hbe).at_ (i := k) (TLine.wds xs) (by simpa using hlt)
      simp only [List.getElem_map] at hr
      obtain ⟨rfl, -, i0, -⟩ := TLine.open_ hr
      have c0 : wr.cell? ⟨b, off + k * 3, none⟩ = _ := hcell 0 _ rfl
      have I0 := Lib.hid i0
      have HB := Lib.hid hB
      have es : (shownCells (xs.take (k + 1))).map D.int = (shownCells (xs.take k)).map D.int ++ [D.int xs[k].cell] := by
        unfold shownCells; rw [List.take_succ_eq_append_getElem hlt, List.map_append, List.map_append]; rfl
      have ES := Lib.hid es
      have EL := Lib.hid el
      clear hcell hr hlen i0 hB es el
      go_wp2_with (at_builtin; go_loud (refine wpList_append_bld _ rfl _ _ _ rfl w.heap.size 3 1 8 (.int .i64 0) Try.underlying50 (by kernel_rfl) rfl (by omega) _ _ _ rfl (HB.out.below (bnew (Below.refl _ _) _)) _ 1 1 [D.int xs[k].cell] [.int .i64 xs[k].cell] [] rfl (src_one (mk_int I0.out) (by simp)) rfl (Fr.nil _ _) (by simp) (by rw [EL.out]; omega) (by omega) (by have := hbe.size; simp; omega) ?_; rintro A2 c2 w2 hB2 hg2))
      go_roundw
      case rel =>
        refine ⟨k + 1, by omega, by go_num, ?_, bgrown (bnew hbe _) hg2 (fun g hg => (HB.out.own g hg).1)⟩
        rw [ES.out]
        have h2 := hB2
        rw [List.length_map] at h2
        exact h2
      case measure => simp [intOf]; omega
    · have hk' : k = xs.length := by omega
      subst hk'
      rw [List.take_of_length_le (Nat.le_refl _)] at hB
      have el' : (shownCells xs).length = xs.length := List.length_map _
      obtain ⟨F', s1, f1, _⟩ := hB.done
      have S1 := Lib.hid s1
      clear hB s1 el
      go_wp2_with fail
      go_ret
      rw [el']
      exact ⟨A', c', F', rfl, S1.out, f1, hbe⟩
set_option maxHeartbeats 2000000 in
set_option maxRecDepth 100000 in
theorem implShownCells_any (w : World) (v : Value) (xs : List TLine) (F : List Nat) (h : SlAt w v (xs.map TLine.d) F) (hb : xs.length + bkL (xs.map TLine.d) ≤ 1048576) :
    Calls Try.prog 28 #[v] w fun e w' => ∃ (A' : Option Addr) (c' : Nat) (F' : List Nat), e = .returned (.slice A' (shownCells xs).length c') ∧ SlAt w' (.slice A' (shownCells xs).length c') ((shownCells xs).map D.int) F' ∧ Fr w.heap.size w' F' ∧ Below w.heap.size w w' := by
  obtain ⟨A, c, rfl, hn, hc⟩ := h.form
  rw [List.length_map] at hn h ⊢
  go_enter Try.func28, Try.ntmps28
  go_wp2_with fail
  go_loopw [3, 9] (fun o i wr => ∃ k : Nat, k ≤ xs.length ∧ i = .int .i64 k ∧ Bld w.heap.size 3 1 wr o ((shownCells (xs.take k)).map D.int) [] ∧ Below w.heap.size w wr) (fun _ i _ => xs.length - (intOf i).toNat)
  case atStart => exact ⟨0, Nat.zero_le _, rfl, bld_empty w 3 1, bnew (Below.refl _ _) _⟩
  case round =>
    obtain ⟨k, hk, rfl, hB, hbe⟩ := hrel
    obtain ⟨A', c', rfl⟩ := hB.form
    have el : ((shownCells (xs.take k)).map D.int).length = k := by rw [List.length_map]; unfold shownCells; rw [List.length_map, List.length_take]; omega
    rw [el] at hB ⊢
    by_cases hlt : k < xs.length
    · obtain ⟨b, off, ys, Fi, rfl, hbl, _, hr, hlen, _, hcell⟩ := (h.below hbe).at_ (i := k) (TLine.wds xs) (by simpa using hlt)
      simp only [List.getElem_map] at hr
      obtain ⟨rfl, -, i0, -⟩ := TLine.open_ hr
      have c1 := hcell 1 _ rfl
      have c2' := hcell 2 _ rfl
      have c0 : wr.cell? ⟨b, off + k * 3, none⟩ = _ := hcell 0 _ rfl
      have I0 := Lib.hid i0
      have HB := Lib.hid hB
      have es : (shownCells (xs.take (k + 1))).map D.int = (shownCells (xs.take k)).map D.int ++ [D.int xs[k].cell] := by
        unfold shownCells; rw [List.take_succ_eq_append_getElem hlt, List.map_append, List.map_append]; rfl
      have ES := Lib.hid es
      have EL := Lib.hid el
      clear hcell hr hlen i0 hB es el
      go_wp2_with (at_builtin; go_loud (refine wpList_append_bld _ rfl _ _ _ rfl w.heap.size 3 1 8 (.int .i64 0) Try.underlying50 (by kernel_rfl) rfl (by omega) _ _ _ rfl (HB.out.below (bnew (bnew (Below.refl _ _) _) _)) _ 1 1 [D.int xs[k].cell] [.int .i64 xs[k].cell] [] rfl (src_one (mk_int I0.out) (by simp)) rfl (Fr.nil _ _) (by simp) (by rw [EL.out]; omega) (by omega) (by have := hbe.size; simp; omega) ?_; rintro A2 c2 w2 hB2 hg2))
      go_roundw
      case rel =>
        refine ⟨k + 1, by omega, by go_num, ?_, bgrown (bnew (bnew hbe _) _) hg2 (fun g hg => (HB.out.own g hg).1)⟩
        rw [ES.out]
        have h2 := hB2
        rw [List.length_map] at h2
        exact h2
      case measure => simp [intOf]; omega
    · have hk' : k = xs.length := by omega
      subst hk'
      rw [List.take_of_length_le (Nat.le_refl _)] at hB
      have el' : (shownCells xs).length = xs.length := List.length_map _
      obtain ⟨F', s1, f1, _⟩ := hB.done
      have S1 := Lib.hid s1
      clear hB s1 el
      go_wp2_with fail
      go_ret
      rw [el']
      exact ⟨A', c', F', rfl, S1.out, f1, hbe⟩
end Go.Proofs.Ytopjlbifglacpaa
