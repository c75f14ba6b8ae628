/- Small words for walks: readings opened field by field, a count that may run out, regions whose callees only make new blocks. -/
import Derived.Test.YtopjlbifglacpaaOwn
import Derived.StillTailTactics
import Derived.Deep.QuietTactic
import Derived.BigQuiet
import Derived.Deep.DeepFit
import Derived.Deep.DeepMust
namespace Go.Proofs.Ytopjlbifglacpaa
open Go.RowKit

section
variable {w : World}
theorem rep_int {n : Int} {cs : List Value} {F : List Nat} : Rep w (.int n) cs F ↔ cs = [.int .i64 n] ∧ F = [] ∧ I64 n := by simp only [Rep]
theorem rep_byte {n : Int} {cs : List Value} {F : List Nat} : Rep w (.byte n) cs F ↔ cs = [.int .u8 n] ∧ F = [] ∧ 0 ≤ n ∧ n ≤ 255 := by simp only [Rep]
theorem rep_bool {b : Bool} {cs : List Value} {F : List Nat} : Rep w (.bool b) cs F ↔ cs = [.bool b] ∧ F = [] := by simp only [Rep]
/-- A text fits. -/
def Fits (s : ByteArray) : Prop := s.size ≤ 9223372036854775807
theorem rep_str {s : ByteArray} {cs : List Value} {F : List Nat} : Rep w (.str s) cs F ↔ cs = [.string s] ∧ F = [] ∧ Fits s := by simp only [Rep, Fits]
theorem rep_agg {fs : List D} {cs : List Value} {F : List Nat} : Rep w (.agg fs) cs F ↔ RepL w fs cs F := by simp only [Rep]
theorem repL_nil {cs : List Value} {F : List Nat} : RepL w [] cs F ↔ cs = [] ∧ F = [] := by simp only [RepL]
theorem repL_cons {d : D} {ds : List D} {cs : List Value} {F : List Nat} : RepL w (d :: ds) cs F ↔ ∃ c1 c2 F1 F2, cs = c1 ++ c2 ∧ F = F1 ++ F2 ∧ Rep w d c1 F1 ∧ RepL w ds c2 F2 := by simp only [RepL]
theorem rep_sl {es : List D} {cs : List Value} {F : List Nat} : Rep w (.sl es) cs F ↔ ∃ A c, cs = [.slice A es.length c] ∧ SlAt w (.slice A es.length c) es F := by
  constructor
  · intro h
    have h' := h
    simp only [Rep] at h'
    obtain ⟨A, c, rfl, _⟩ := h'
    exact ⟨A, c, rfl, h⟩
  · rintro ⟨A, c, rfl, h⟩
    exact h
theorem mk_int {n : Int} (h : I64 n) : Rep w (.int n) [.int .i64 n] [] := rep_int.2 ⟨rfl, rfl, h⟩
theorem mk_bool {b : Bool} : Rep w (.bool b) [.bool b] [] := rep_bool.2 ⟨rfl, rfl⟩
theorem mk_str {s : ByteArray} (h : Fits s) : Rep w (.str s) [.string s] [] := rep_str.2 ⟨rfl, rfl, h⟩
theorem mk_sl {A : Option Addr} {n c : Nat} {es : List D} {F : List Nat} (h : SlAt w (.slice A n c) es F) : Rep w (.sl es) [.slice A n c] F := h
theorem mk_cons {d : D} {ds : List D} {c1 c2 : List Value} {F1 F2 : List Nat} (h : Rep w d c1 F1) (k : RepL w ds c2 F2) : RepL w (d :: ds) (c1 ++ c2) (F1 ++ F2) := repL_cons.2 ⟨_, _, _, _, rfl, rfl, h, k⟩
theorem mk_nil : RepL w [] [] [] := repL_nil.2 ⟨rfl, rfl⟩
theorem Rep.alloc {d : D} {cs : List Value} {F : List Nat} (h : Rep w d cs F) (o : Obj) : Rep (w.alloc o) d cs F := h.below ((Below.refl _ _).alloc (Nat.le_refl _) o)
theorem SlAt.below {w' : World} {v : Value} {es : List D} {F : List Nat} (h : SlAt w v es F) (hb : Below w.heap.size w w') : SlAt w' v es F := Rep.below h hb
theorem SlAt.alloc {v : Value} {es : List D} {F : List Nat} (h : SlAt w v es F) (o : Obj) : SlAt (w.alloc o) v es F := Rep.alloc h o
theorem SlAt.len {A : Option Addr} {n c : Nat} {es : List D} {F : List Nat} (h : SlAt w (.slice A n c) es F) : es.length = n ∧ n ≤ c ∧ c ≤ 9223372036854775807 := by
  obtain ⟨A', c', e, h1, h2⟩ := h.form
  injection e with e1 e2 e3
  subst e2 e3
  exact ⟨rfl, h1, h2⟩
end

theorem ret_int {k : IntKind} {a b : Int} (h : a = b) : Ending.returned (.int k a) = .returned (.int k b) := by rw [h]
theorem ret_bool {a b : Bool} (h : a = b) : Ending.returned (.bool a) = .returned (.bool b) := by rw [h]

/-- What is left of a count when b is taken off: -1 if it does not suffice. -/
def szr (b : Nat) (left : Int) : Int := if (b : Int) ≤ left then left - b else -1
theorem szr_spec (b : Nat) (left : Int) : ((b : Int) ≤ left ∧ szr b left = left - b) ∨ (left < b ∧ szr b left = -1) := by
  unfold szr
  by_cases h : (b : Int) ≤ left
  · exact .inl ⟨h, by rw [if_pos h]⟩
  · exact .inr ⟨by omega, by rw [if_neg h]⟩
theorem szr_bd (b : Nat) {left : Int} (h : 0 ≤ left) : -1 ≤ szr b left ∧ szr b left ≤ left := by
  rcases szr_spec b left with h1 | h1 <;> omega

mutual
/-- How many values and letters the slices and texts of a datum hold. -/
def bk : D → Nat
  | .int _ => 0
  | .byte _ => 0
  | .bool _ => 0
  | .str s => s.size
  | .agg fs => bkL fs
  | .sl es => es.length + bkL es
def bkL : List D → Nat
  | [] => 0
  | d :: ds => bk d + bkL ds
end
theorem bkL_append : ∀ (a b : List D), bkL (a ++ b) = bkL a + bkL b
  | [], b => by simp [bkL]
  | x :: a, b => by simp only [List.cons_append, bkL, bkL_append a b]; omega
theorem bkL_take_succ (es : List D) (i : Nat) (h : i < es.length) : bkL (es.take (i + 1)) = bkL (es.take i) + bk es[i] := by
  rw [List.take_succ_eq_append_getElem h, bkL_append]; simp [bkL]
theorem bkL_take_le (es : List D) (i : Nat) : bkL (es.take i) ≤ bkL es := by
  have h := bkL_append (es.take i) (es.drop i)
  rw [List.take_append_drop] at h; omega
theorem bkL_get_le (es : List D) (i : Nat) (h : i < es.length) : bk es[i] ≤ bkL es := by
  have h1 := bkL_take_succ es i h
  have h2 := bkL_take_le es (i + 1)
  omega

/-- A world that has only new blocks beside those of w. -/
def Ext (w : World) : Type := { w' : World // Below w.heap.size w w' }

instance extNonempty (w : World) : Nonempty (Ext w) := ⟨⟨w, Below.refl _ _⟩⟩

theorem ext_cell {w : World} (x : Ext w) (b o : Nat) (h : b < w.heap.size) : x.1.cell? ⟨b, o, none⟩ = w.cell? ⟨b, o, none⟩ := x.2.cell (p := ⟨b, o, none⟩) h

/-- A region that draws its order, whose operations only read and whose callees only make new blocks: walked once, in the order of the text. -/
theorem wp_region_mild {P : Program} {id : Nat} {Q : Exit → Act → World → Prop} {a : Act} {w : World} {l : List Oper} (hm : P.follows .mixedOrders = true) (hB : Region.lexB .any l.toArray = true)
    (h : wpQuiet P l.toArray (fun w' => ∃ x : Ext w, w' = x.1) (fun a' => ∀ w', (∃ x : Ext w, w' = x.1) → Q .normal a' w') l a) : (Code.region id l.toArray true).wp P Q a w :=
  wp_region_quiet (C := fun w' => ∃ x : Ext w, w' = x.1) hm hB ⟨⟨w.drew, (Below.refl _ _).drew⟩, rfl⟩ (by simpa using h)

theorem mild_of {P : Program} {f : FuncId} {args : Array Value} {w : World} {x : Ext w} {v : Value} (h : Calls P f args x.1 fun e w' => e = .returned v ∧ Below x.1.heap.size x.1 w') :
    Calls P f args x.1 fun e w'' => e = .returned v ∧ ∃ y : Ext w, w'' = y.1 :=
  h.mono fun _ w' ⟨he, hb⟩ => ⟨he, ⟨w', x.2.trans (hb.mono x.2.size)⟩, rfl⟩

section
variable {P : Program} {w : World}
/-- A whole struct read out of a row. -/
theorem wpList_load_cells {ops : Array Oper} {rest : List Oper} {o : Oper} {a : Act} {Q : Exit → Act → World → Prop} (hgd : o.guard = none) (ty : TypeId) (p : Operand) (ho : o.op = .load ty p)
    {fs : Array Field} (hu : P.underlying ty = some (.struct fs)) {zv : Option Value} {W bytes : Nat} (hinfo : (P.info? ty).map (fun i => (i.zero, i.size, i.bytes)) = some (zv, W, bytes))
    {b k : Nat} {ys : List Value} (hx : a.eval p = .pointer (some ⟨b, k, none⟩)) (hl : ys.length = W) (hc : ∀ j u, ys[j]? = some u → w.cell? ⟨b, k + j, none⟩ = some u)
    (h : wpList P ops Q rest (a.put o.dst (.agg ys.toArray)) w) : wpList P ops Q (o :: rest) a w := by
  have hrun : (loadVar ty ⟨b, k, none⟩).run P w = .ok (.agg ys.toArray) w := by
    have h1 : (loadCells ⟨b, k, none⟩ ys.length).run P w = .ok ys.toArray w :=
      run_loadCells_list (P := P) w ⟨b, k, none⟩ ys (fun j v hv => by rw [Addr.add_lit]; exact hc j v hv)
    obtain ⟨i, hi, hzz⟩ := Option.map_eq_some_iff.1 hinfo
    simp only [Prod.mk.injEq] at hzz
    have hagg : (isAgg ty).run P w = .ok true w := by
      unfold isAgg
      rw [Sem.run_bind, run_underlying hu w]
      rfl
    have hs : i.size = ys.length := by omega
    simp [loadVar, Sem.run_bind, hagg, sizeOf, typeInfo, hi, hs, h1]
  refine wpList_plain hgd fun K hK => ?_
  unfold Oper.wp execOp
  simp only [ho, hx, Instr.loadAt, Instr.sureAddr, Sem.run_bind, Sem.run_pure, Result.andThen_ok, hrun]
  exact hK _ _ h
end

theorem bcell {w w1 : World} (hb : Below w.heap.size w w1) : (∀ b o, b < w.heap.size → w1.cell? ⟨b, o, none⟩ = w.cell? ⟨b, o, none⟩) ∧ (∀ b o, b < w.heap.size → w1.frozen? ⟨b, o, none⟩ = w.frozen? ⟨b, o, none⟩) :=
  ⟨fun b o h => hb.cell (p := ⟨b, o, none⟩) h, fun b o h => hb.frozen (p := ⟨b, o, none⟩) h⟩

end Go.Proofs.Ytopjlbifglacpaa
