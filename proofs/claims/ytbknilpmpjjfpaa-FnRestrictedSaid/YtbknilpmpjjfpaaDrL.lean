/- What is drawn out of bytes: each draw gives an answer, within its bounds. -/
import Derived.Test.YtbknilpmpjjfpaaMapL
import Derived.Test.YtbknilpmpjjfpaaMd0
set_option linter.unusedSimpArgs false
set_option linter.unusedVariables false
namespace Go.Proofs.Ytbknilpmpjjfpaa
open Go.RowKit Am
def Cu (c : Tl1Cur) : Prop := 0 ≤ c.i ∧ c.b.length ≤ 1048576
theorem and_bd (x : Int) : 0 ≤ iAnd .i64 x 255 ∧ iAnd .i64 x 255 ≤ 255 := by
  unfold iAnd
  have h : (BitVec.ofInt IntKind.i64.bits x &&& BitVec.ofInt IntKind.i64.bits 255).toNat ≤ 255 := by
    rw [BitVec.toNat_and]
    exact Nat.le_trans Nat.and_le_right (by decide)
  rw [w64 (by omega) (by omega)]
  omega
theorem byte_tot {c : Tl1Cur} (h : Cu c) : Tot (fun r : Int × Tl1Cur => (0 ≤ r.1 ∧ r.1 ≤ 255) ∧ Cu r.2) fun _ => s_l1Byte c := by
  obtain ⟨h0, h1⟩ := h
  unfold s_l1Byte
  refine .bind (p := fun r : Int × Int => (0 ≤ r.1 ∧ r.1 ≤ 255) ∧ 0 ≤ r.2) (.ite (fun e => ?_) fun _ => .ret ⟨and_bd _, h0⟩) fun v hv => .ret ⟨hv.1, hv.2, h1⟩
  have e : c.i < c.b.length := by simpa using e
  refine .bindAt h0 e fun y _ _ => .ret ⟨and_bd _, ?_⟩
  simp only
  rw [w64 (by omega) (by omega)]; omega
theorem mod_bd {x n : Int} (h0 : 0 ≤ x) (h1 : x ≤ 9223372036854775807) (hn : 0 < n) : 0 ≤ IntKind.i64.wrap (x.tmod n) ∧ IntKind.i64.wrap (x.tmod n) < n := by
  have a := Int.tmod_nonneg n h0
  have b := Int.tmod_lt_of_pos x hn
  have c : x.tmod n ≤ x := by
    by_cases g : n ≤ x
    · omega
    · rw [Int.tmod_eq_emod_of_nonneg h0, Int.emod_eq_of_lt h0 (by omega)]; omega
  rw [w64 (by omega) (by omega)]
  exact ⟨a, b⟩
theorem below_tot {c : Tl1Cur} (n : Int) (h : Cu c) : Tot (fun r : Int × Tl1Cur => (0 ≤ r.1 ∧ (0 < n → r.1 < n) ∧ (n ≤ 0 → r.1 = 0)) ∧ Cu r.2) fun _ => s_l1Below c n := by
  unfold s_l1Below
  refine .ite (fun e => ?_) fun e => ?_
  · have e : n ≤ 0 := by simpa using e
    exact .ret ⟨⟨Int.le_refl _, fun g => by omega, fun _ => rfl⟩, h⟩
  have e : 0 < n := by simpa using e
  have hz : ∀ {β : Type} {q : β → Prop} {g : Nat → Unit → Option β}, Tot q (fun k => g k ()) → Tot q fun k => (nz? n).bind (g k) := fun hg => by
    have : nz? n = some () := by unfold nz?; rw [if_pos (by omega)]
    simp only [this, Option.bind_some]; exact hg
  refine .ite (fun _ => .bind (byte_tot h) fun v hv => hz (.ret ⟨?_, hv.2⟩)) fun _ => .bind (byte_tot h) fun v hv => .bind (byte_tot hv.2) fun u hu => .bind (byte_tot hu.2) fun t ht => .bind (byte_tot ht.2) fun s hs => hz (.ret ⟨?_, hs.2⟩)
  · have := mod_bd (x := v.1) (n := n) hv.1.1 (by omega) e
    exact ⟨this.1, fun _ => this.2, fun g => by omega⟩
  · have a := hv.1; have b := hu.1; have c := ht.1; have d := hs.1
    have e1 : IntKind.i64.wrap (v.1 * 16777216) = v.1 * 16777216 := w64 (by omega) (by omega)
    have e2 : IntKind.i64.wrap (u.1 * 65536) = u.1 * 65536 := w64 (by omega) (by omega)
    have e3 : IntKind.i64.wrap (t.1 * 256) = t.1 * 256 := w64 (by omega) (by omega)
    have e4 : IntKind.i64.wrap (v.1 * 16777216 + u.1 * 65536) = v.1 * 16777216 + u.1 * 65536 := w64 (by omega) (by omega)
    have e5 : IntKind.i64.wrap (v.1 * 16777216 + u.1 * 65536 + t.1 * 256) = v.1 * 16777216 + u.1 * 65536 + t.1 * 256 := w64 (by omega) (by omega)
    have e6 : IntKind.i64.wrap (v.1 * 16777216 + u.1 * 65536 + t.1 * 256 + s.1) = v.1 * 16777216 + u.1 * 65536 + t.1 * 256 + s.1 := w64 (by omega) (by omega)
    simp only [e1, e2, e3, e4, e5, e6]
    have := mod_bd (x := v.1 * 16777216 + u.1 * 65536 + t.1 * 256 + s.1) (n := n) (by omega) (by omega) e
    exact ⟨this.1, fun _ => this.2, fun g => by omega⟩
theorem once_tot {c : Tl1Cur} (n : Int) (h : Cu c) : Tot (fun r : Bool × Tl1Cur => Cu r.2) fun _ => s_l1Once c n := by
  unfold s_l1Once
  exact .bind (below_tot n h) fun v hv => .ret hv.2
theorem pickInt_tot {c : Tl1Cur} (l : List Int) (h : Cu c) (h0 : 0 < l.length) : Tot (fun r : Int × Tl1Cur => r.1 ∈ l ∧ Cu r.2) fun _ => s_l1PickInt c l := by
  unfold s_l1PickInt
  exact .bind (below_tot _ h) fun v hv => .bindAt hv.1.1 (hv.1.2.1 (by omega)) fun x _ hm => .ret ⟨hm, hv.2⟩
theorem pick_tot {c : Tl1Cur} (l : List ByteArray) (h : Cu c) (h0 : 0 < l.length) : Tot (fun r : ByteArray × Tl1Cur => r.1 ∈ l ∧ Cu r.2) fun _ => s_l1Pick c l := by
  unfold s_l1Pick
  exact .bind (below_tot _ h) fun v hv => .bindAt hv.1.1 (hv.1.2.1 (by omega)) fun x _ hm => .ret ⟨hm, hv.2⟩
theorem new_tot (b : List Int) (h : b.length ≤ 1048576) : Tot Cu fun k => s_l1New k b := by
  unfold s_l1New
  refine .bind (p := fun _ => True) ?_ fun v _ => .ret ⟨Int.le_refl _, h⟩
  refine Tot.loop (fun k n (s : Int × Int) => s_l1New_u1 b n s.1 s.2) (fun s => 0 ≤ s.2 ∧ s.2 ≤ b.length) (fun s => (b.length - s.2).toNat) (s0 := (_, 0)) ⟨by simp, by simp⟩ ?_
  rintro ⟨x, i⟩ ⟨h0, h1⟩
  simp only at h0 h1
  simp only [s_l1New_u1]
  refine .bind (p := fun v : Bool => v = true → i < b.length) (.ite (fun e => .ret fun _ => by simpa using e) fun _ => .ret fun g => by cases g) fun v hv => .ite (fun e => ?_) fun _ => .ret trivial
  have e := hv e
  have hw : IntKind.i64.wrap (i + 1) = i + 1 := w64 (by omega) (by omega)
  rw [hw]
  exact .bindAt h0 e fun y _ _ => .next2 ⟨⟨by simp only; omega, by simp only; omega⟩, by simp only; omega⟩
end Go.Proofs.Ytbknilpmpjjfpaa
