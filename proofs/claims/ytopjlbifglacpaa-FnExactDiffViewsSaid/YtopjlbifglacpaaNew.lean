/- A datum whose blocks are all new and met once: kept by stores elsewhere and by new blocks. -/
import Derived.Test.YtopjlbifglacpaaTyBasic
namespace Go.Proofs.Ytopjlbifglacpaa
open Go.RowKit

/-- The cells read as d, and every block that is gone through is new (from B on), met once, not frozen. -/
def NewD (B : Nat) (w : World) (d : D) (cs : List Value) (F : List Nat) : Prop := Rep w d cs F ∧ Fr B w F

theorem size_set (w : World) (p : Addr) (u : Value) : (w.setCell p u).heap.size = w.heap.size := by simp [World.setCell]
theorem Same.set {w : World} {p : Addr} {u : Value} {F : List Nat} (h : p.block ∉ F) : Same w (w.setCell p u) F :=
  ⟨by rw [size_set]; exact Nat.le_refl _, fun b hb => Below.heap_setCell _ _ _ _ (fun e => h (e ▸ hb))⟩
theorem Rep.set {w : World} {d : D} {cs : List Value} {F : List Nat} (h : Rep w d cs F) {p : Addr} (hp : p.block ∉ F) (u : Value) : Rep (w.setCell p u) d cs F := h.keep (Same.set hp)
theorem NewD.set {B : Nat} {w : World} {d : D} {cs : List Value} {F : List Nat} (h : NewD B w d cs F) {p : Addr} (hp : p.block < B) (u : Value) : NewD B (w.setCell p u) d cs F := by
  have hn : p.block ∉ F := fun hm => by have := (h.2.2 _ hm).1; omega
  exact ⟨h.1.set hn u, h.2.keep (Same.set hn)⟩
theorem NewD.next {B : Nat} {w w' : World} {d : D} {cs : List Value} {F : List Nat} (h : NewD B w d cs F) (hb : Below w.heap.size w w') : NewD B w' d cs F := ⟨h.1.below hb, h.2.below hb⟩
theorem NewD.new {B : Nat} {w : World} {d : D} {cs : List Value} {F : List Nat} (h : NewD B w d cs F) (o : Obj) : NewD B (w.alloc o) d cs F := h.next ((Below.refl _ _).alloc (Nat.le_refl _) o)
theorem NewD.mono {B B' : Nat} {w : World} {d : D} {cs : List Value} {F : List Nat} (h : NewD B w d cs F) (hB : B' ≤ B) : NewD B' w d cs F := ⟨h.1, h.2.mono hB⟩

/-- One behind the other: F was there (below K) when G was made (from K on). -/
theorem Fr.two {B B' K : Nat} {w : World} {F G : List Nat} (h : Fr B w F) (k : Fr B' w G) (hF : ∀ b ∈ F, b < K) (hK : K ≤ B') (hB : B ≤ B') : Fr B w (F ++ G) :=
  h.append (k.mono hB) fun b hb hb' => by have := hF b hb; have := (k.2 b hb').1; omega

theorem NewD.rep {B : Nat} {w : World} {d : D} {cs : List Value} {F : List Nat} (h : NewD B w d cs F) : Rep w d cs F := h.1
theorem NewD.low {B B' : Nat} {w : World} {d : D} {cs : List Value} {F : List Nat} (h : NewD B w d cs F) (hB : B' ≤ B) : Fr B' w F := h.2.mono hB
theorem NewD.sl {B : Nat} {w : World} {A : Option Addr} {n c : Nat} {es : List D} {F : List Nat} (h : SlAt w (.slice A n c) es F) (k : Fr B w F) : NewD B w (.sl es) [.slice A n c] F := ⟨h, k⟩
theorem Fr.cat {B K : Nat} {w : World} {F G : List Nat} (h : Fr B w F) (k : Fr B w G) (hF : ∀ b ∈ F, b < K) (hG : ∀ b ∈ G, K ≤ b) : Fr B w (F ++ G) :=
  h.append k fun b hb hb' => by have := hF b hb; have := hG b hb'; omega
theorem repL_of {w : World} {ds : List D} {cs cs' : List Value} {F F' : List Nat} (h : RepL w ds cs F) (h1 : cs = cs') (h2 : F = F') : RepL w ds cs' F' := h1 ▸ h2 ▸ h
theorem bset {a w : World} (h : Below a.heap.size a w) {p : Addr} (hp : a.heap.size ≤ p.block) (u : Value) : Below a.heap.size a (w.setCell p u) := h.setCell hp u

theorem cell_new (w : World) (cs : Array Value) (t : TypeId) (j : Nat) (u : Value) (h : cs[j]? = some u) : (w.alloc (.cells cs t)).cell? ⟨w.heap.size, j, none⟩ = some u :=
  (cell_of_row _ _ j cs t (0, 0) (heap_alloc_new w _)).trans h
/-- A cell that was there is there behind a call that only makes new blocks. -/
theorem cell_next {w w1 : World} (hb : Below w.heap.size w w1) {b o : Nat} {u : Value} (h : w.cell? ⟨b, o, none⟩ = some u) : w1.cell? ⟨b, o, none⟩ = some u :=
  (hb.cell (p := ⟨b, o, none⟩) (World.block_lt_of_cell? w _ h)).trans h
theorem cell_old {w : World} {b o : Nat} {u : Value} (h : w.cell? ⟨b, o, none⟩ = some u) (x : Obj) : (w.alloc x).cell? ⟨b, o, none⟩ = some u := cell_next ((Below.refl _ _).alloc (Nat.le_refl _) x) h
/-- A number of bytes that a slice may take. -/
theorem mul_le_of {n b k : Nat} (h : n ≤ k) (hb : b * k ≤ 281474976710656) : b * n ≤ 281474976710656 := Nat.le_trans (Nat.mul_le_mul_left _ h) hb

theorem toWds {α : Type} {f : α → D} {W : Nat} (xs : List α) (hf : ∀ d ∈ xs.map f, wd d = W) (k m : Nat) (x z : D) (hx : wd x = W) (hz : wd z = W) : ∀ d ∈ (xs.map f).take k ++ x :: List.replicate m z, wd d = W := by
  intro d hd
  simp only [List.mem_append, List.mem_cons, List.mem_replicate] at hd
  rcases hd with hd | rfl | ⟨_, rfl⟩
  · exact hf d (List.mem_of_mem_take hd)
  · exact hx
  · exact hz
theorem toRep {z : D} {n k : Nat} (h : k < n) : List.replicate (n - k) z = z :: List.replicate (n - (k + 1)) z := by
  rw [← List.replicate_succ]; congr 1; omega
theorem toTake {α : Type} {f : α → D} {xs : List α} {k : Nat} {z : List D} (h : k < xs.length) : (xs.map f).take k ++ f xs[k] :: z = (xs.map f).take (k + 1) ++ z := by
  rw [List.take_succ_eq_append_getElem (by simpa using h)]
  simp
end Go.Proofs.Ytopjlbifglacpaa
