/- From the form's own reading of an argument to flat cells; a law's contract as its statement asks it. -/
import Derived.Test.YtopjlbifglacpaaOpen
import Derived.Test.YtopjlbifglacpaaLw
set_option linter.unusedSimpArgs false
set_option linter.unusedVariables false
namespace Go.Proofs.Ytopjlbifglacpaa
open Go.RowKit Am

mutual
def fl : D → List L
  | .int n => [.int .i64 n]
  | .byte n => [.int .u8 n]
  | .bool b => [.bool b]
  | .str s => [.str s]
  | .agg fs => flL fs
  | .sl es => [.sl (flE es)]
def flL : List D → List L
  | [] => []
  | d :: ds => fl d ++ flL ds
def flE : List D → List (List L)
  | [] => []
  | d :: ds => fl d :: flE ds
end

theorem flE_length : ∀ ds : List D, (flE ds).length = ds.length
  | [] => by simp [flE]
  | d :: ds => by simp [flE, flE_length ds]
theorem flE_map {α : Type} (f : α → D) : ∀ xs : List α, flE (xs.map f) = xs.map fun x => fl (f x)
  | [] => by simp [flE]
  | x :: xs => by simp [flE, flE_map f xs]

theorem rpL_append {w : World} : ∀ {xs ys : List L} {v1 v2 : List Value} {F1 F2 : List Nat}, RpL w xs v1 F1 → RpL w ys v2 F2 → RpL w (xs ++ ys) (v1 ++ v2) (F1 ++ F2)
  | [], _, _, _, _, _, h, k => by simp only [RpL] at h; obtain ⟨rfl, rfl⟩ := h; simpa using k
  | x :: xs, _, _, _, _, _, h, k => by
    simp only [RpL] at h
    obtain ⟨v, vs', G1, G2, rfl, rfl, h1, h2⟩ := h
    simp only [List.cons_append, RpL]
    exact ⟨v, _, G1, _, rfl, by simp, h1, rpL_append h2 k⟩
theorem rpL_split {w : World} : ∀ {xs ys : List L} {vs : List Value} {F : List Nat}, RpL w (xs ++ ys) vs F → ∃ v1 v2 F1 F2, vs = v1 ++ v2 ∧ F = F1 ++ F2 ∧ RpL w xs v1 F1 ∧ RpL w ys v2 F2
  | [], _, vs, F, h => ⟨[], vs, [], F, rfl, rfl, by simp [RpL], h⟩
  | x :: xs, _, _, _, h => by
    simp only [List.cons_append, RpL] at h
    obtain ⟨v, vs', G1, G2, rfl, rfl, h1, h2⟩ := h
    obtain ⟨v1, v2, F1, F2, rfl, rfl, h3, h4⟩ := rpL_split h2
    exact ⟨v :: v1, v2, G1 ++ F1, F2, rfl, by simp, by simp only [RpL]; exact ⟨v, v1, G1, F1, rfl, rfl, h1, h3⟩, h4⟩
theorem rpL_one {w : World} {x : L} {vs : List Value} {F : List Nat} : RpL w [x] vs F ↔ ∃ v, vs = [v] ∧ Rp w x v F := by
  simp only [RpL]
  constructor
  · rintro ⟨v, vs', F1, F2, rfl, rfl, h1, rfl, rfl⟩; exact ⟨v, rfl, by simpa using h1⟩
  · rintro ⟨v, rfl, h⟩; exact ⟨v, [], F, [], rfl, by simp, h, rfl, rfl⟩
theorem inK_i64' {n : Int} : InK .i64 n ↔ I64 n := Am.inK_i64 n

mutual
theorem rep_fl {w : World} : ∀ {d : D} {cs : List Value} {F : List Nat}, Rep w d cs F ↔ RpL w (fl d) cs F
  | .int n, cs, F => by simp only [Rep, fl, rpL_one, Rp, inK_i64']; constructor; (rintro ⟨rfl, h⟩; exact ⟨_, rfl, rfl, h⟩); (rintro ⟨v, rfl, rfl, h⟩; exact ⟨rfl, h⟩)
  | .byte n, cs, F => by simp only [Rep, fl, rpL_one, Rp, inK_u8]; constructor; (rintro ⟨rfl, h⟩; exact ⟨_, rfl, rfl, h⟩); (rintro ⟨v, rfl, rfl, h⟩; exact ⟨rfl, h⟩)
  | .bool n, cs, F => by simp only [Rep, fl, rpL_one, Rp]; constructor; (rintro ⟨rfl, h⟩; exact ⟨_, rfl, rfl, h⟩); (rintro ⟨v, rfl, rfl, h⟩; exact ⟨rfl, h⟩)
  | .str n, cs, F => by simp only [Rep, fl, rpL_one, Rp, Fit]; constructor; (rintro ⟨rfl, h⟩; exact ⟨_, rfl, rfl, h⟩); (rintro ⟨v, rfl, rfl, h⟩; exact ⟨rfl, h⟩)
  | .agg fs, cs, F => by simp only [Rep, fl]; exact repL_fl
  | .sl es, cs, F => by
    simp only [Rep, fl, rpL_one, Rp, flE_length]
    constructor
    · rintro ⟨A, c, rfl, h1, h2, ⟨rfl, rfl⟩ | ⟨b, off, xs, Fs, e1, e2, e3, e4, e5⟩⟩
      · exact ⟨_, rfl, A, c, rfl, h1, h2, .inl ⟨by simp [flE], rfl⟩⟩
      · exact ⟨_, rfl, A, c, rfl, h1, h2, .inr ⟨b, off, xs, Fs, e1, e2, e3, e4, repE_fl.1 e5⟩⟩
    · rintro ⟨v, rfl, A, c, rfl, h1, h2, ⟨h3, rfl⟩ | ⟨b, off, xs, Fs, e1, e2, e3, e4, e5⟩⟩
      · refine ⟨A, c, rfl, h1, h2, .inl ⟨?_, rfl⟩⟩
        have := flE_length es
        rw [h3] at this
        simpa using this.symm
      · exact ⟨A, c, rfl, h1, h2, .inr ⟨b, off, xs, Fs, e1, e2, e3, e4, repE_fl.2 e5⟩⟩
theorem repL_fl {w : World} : ∀ {ds : List D} {cs : List Value} {F : List Nat}, RepL w ds cs F ↔ RpL w (flL ds) cs F
  | [], cs, F => by simp only [RepL, flL, RpL]
  | d :: ds, cs, F => by
    simp only [RepL, flL]
    constructor
    · rintro ⟨c1, c2, F1, F2, rfl, rfl, h1, h2⟩
      exact rpL_append (rep_fl.1 h1) (repL_fl.1 h2)
    · intro h
      obtain ⟨c1, c2, F1, F2, rfl, rfl, h1, h2⟩ := rpL_split h
      exact ⟨c1, c2, F1, F2, rfl, rfl, rep_fl.2 h1, repL_fl.2 h2⟩
theorem repE_fl {w : World} : ∀ {ds : List D} {cs : List Value} {F : List Nat}, RepL w ds cs F ↔ RpE w (flE ds) cs F
  | [], cs, F => by simp only [RepL, flE, RpE]
  | d :: ds, cs, F => by
    simp only [RepL, flE, RpE]
    constructor
    · rintro ⟨c1, c2, F1, F2, rfl, rfl, h1, h2⟩
      exact ⟨c1, c2, F1, F2, rfl, rfl, rep_fl.1 h1, repE_fl.1 h2⟩
    · rintro ⟨c1, c2, F1, F2, rfl, rfl, h1, h2⟩
      exact ⟨c1, c2, F1, F2, rfl, rfl, rep_fl.2 h1, repE_fl.2 h2⟩
end

theorem exists_flE {α : Type} {c : α → List L} (es : List D) (h : ∀ x ∈ es, ∃ y : α, fl x = c y) : ∃ ys : List α, flE es = ys.map c := by
  induction es with
  | nil => exact ⟨[], rfl⟩
  | cons e es ih =>
    obtain ⟨y, hy⟩ := h e (by simp)
    obtain ⟨ys, hys⟩ := ih (fun x hx => h x (by simp [hx]))
    exact ⟨y :: ys, by simp only [flE, List.map_cons, hy, hys]⟩
theorem has_slice {P : Program} {n t e : Nat} {α : Type} {c : α → List L} {d : D} (hu : P.underlying t = some (.slice e)) (hi : ∀ m, m < n → ∀ x, has P m e x → ∃ y : α, fl x = c y) (h : has P n t d) : ∃ ys : List α, fl d = [.sl (ys.map c)] := by
  cases n with
  | zero => exact h.elim
  | succ n =>
    simp only [has, hu] at h
    obtain ⟨es, rfl, hf⟩ := h
    obtain ⟨ys, hys⟩ := exists_flE (c := c) es fun x hx => hi n (by omega) x (hf x hx)
    exact ⟨ys, by simp only [fl, hys]⟩
theorem has_int {P : Program} {n t : Nat} {d : D} (hu : P.underlying t = some (.int .i64)) (h : has P n t d) : ∃ y : Int, fl d = [.int .i64 y] := by
  cases n with
  | zero => exact h.elim
  | succ n =>
    simp only [has, hu] at h
    obtain ⟨y, rfl⟩ := h; exact ⟨y, by simp only [fl]⟩
theorem has_bool {P : Program} {n t : Nat} {d : D} (hu : P.underlying t = some .bool) (h : has P n t d) : ∃ y : Bool, fl d = [.bool y] := by
  cases n with
  | zero => exact h.elim
  | succ n =>
    simp only [has, hu] at h
    obtain ⟨y, rfl⟩ := h; exact ⟨y, by simp only [fl]⟩
theorem has_str {P : Program} {n t : Nat} {d : D} (hu : P.underlying t = some .string) (h : has P n t d) : ∃ y : ByteArray, fl d = [.str y] := by
  cases n with
  | zero => exact h.elim
  | succ n =>
    simp only [has, hu] at h
    obtain ⟨y, rfl⟩ := h; exact ⟨y, by simp only [fl]⟩

theorem dvs_cons {w : World} {d : DV} {ds : List DV} {v : Value} {vs : List Value} {F G : List Nat} (h : dvRel w d v F) (k : dvsRel w ds vs G) : dvsRel w (d :: ds) (v :: vs) (F ++ G) := ⟨v, vs, F, G, rfl, rfl, h, k⟩
theorem dvs_nil {w : World} : dvsRel w [] [] [] := ⟨rfl, rfl⟩
theorem dv_of_struct {w : World} {ls : List L} {cl : List Value} {F : List Nat} (h : RpL w ls cl F) : dvRel w (.agg ls) (.agg ⟨cl⟩) F := ⟨cl, rfl, h⟩
theorem dv_of_one {w : World} {x : L} {v : Value} {F : List Nat} (h : RpL w [x] [v] F) : dvRel w (.one x) v F ∧ DOk x := by
  obtain ⟨u, h1, h2⟩ := rpL_one.1 h
  obtain rfl : v = u := by simpa using h1
  exact ⟨h2, Rp.dok h2⟩
theorem dv_int {w : World} {n : Int} (h : -9223372036854775808 ≤ n ∧ n ≤ 9223372036854775807) : dvRel w (.one (.int .i64 n)) (.int .i64 n) [] ∧ DOk (.int .i64 n) := by
  have : InK .i64 n := (inK_i64 n).2 h
  exact ⟨by simp only [dvRel, Rp]; exact ⟨trivial, trivial, this⟩, by simp only [DOk]; exact this⟩
theorem dv_str {w : World} {s : ByteArray} (h : s.size ≤ 9223372036854775807) : dvRel w (.one (.str s)) (.string s) [] ∧ DOk (.str s) := ⟨by simp only [dvRel, Rp]; exact ⟨trivial, trivial, h⟩, by simp only [DOk]; exact h⟩
theorem dv_bool {w : World} {b : Bool} : dvRel w (.one (.bool b)) (.bool b) [] ∧ DOk (.bool b) := ⟨by simp only [dvRel, Rp]; exact ⟨trivial, trivial⟩, by simp only [DOk]⟩

/-- A law's contract that answers true, as its statement asks it. -/
theorem law_true {P : Program} {f : Nat} {ds : List DV} {vs : List Value} {W : World} {FA : List Nat} (hc : Ctr P f ds true [.one (.bool true)]) (hd : dvsRel W ds vs FA) :
    Calls P f vs.toArray W fun e w' => e = .returned (.bool true) ∧ Below W.heap.size W w' := by
  refine (hc.2 W vs FA hd).mono fun e w' ⟨us, he, hr, hb⟩ => ?_
  simp only [resOk, if_true, dvsOw, dvOw, Ow] at hr
  obtain ⟨F, ⟨v, vs', F1, F2, rfl, rfl, ⟨rfl, _⟩, rfl, _⟩, _⟩ := hr
  exact ⟨he, hb⟩
end Go.Proofs.Ytopjlbifglacpaa
