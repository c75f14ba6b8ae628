/- EditEngine: the program's and the reference's answer alike. -/
import Derived.Test.YtbknilpmpjjfpaaGreatEdL
import Derived.Test.YtbknilpmpjjfpaaGreatMd1
import Derived.Test.YtbknilpmpjjfpaaGreatMd3
set_option linter.unusedSimpArgs false
set_option linter.unusedVariables false
namespace Go.Proofs.YtbknilpmpjjfpaaGreat
open Go.RowKit Am
theorem keep_loop {α : Type} (xs : List α) (p : α → Bool) (B : α → List α → Option (List α)) (u : Nat → List α → Int → Option (List α)) (hB : ∀ x ∈ xs, ∀ out : List α, out.length ≤ xs.length → B x out = some (if p x then out ++ [x] else out))
    (hu : ∀ n out i, u (n + 1) out i = if (decide (i < (xs.length : Int))) = true then ((at? xs i).bind fun x => B x out).bind fun y => u n y (IntKind.i64.wrap (i + 1)) else some out)
    (hl : xs.length ≤ 1073741824) {k : Nat} (hk : xs.length < k) : u k [] 0 = some (xs.filter p) := by
  have := loopE (fun n (s : List α) i => u n s i) (fun i => (xs.take i).filter p) (some (xs.filter p)) xs.length
    (fun n i hi => by
      have h1 : ((xs.take i).filter p).length ≤ xs.length := Nat.le_trans (List.length_filter_le _ _) (by simp; omega)
      try simp only
      rw [hu, if_pos (lt_yes hi), at_in hi, Option.bind_some, hB _ (List.getElem_mem hi) _ h1, Option.bind_some, wS i (by omega), List.take_succ_eq_append_getElem hi, List.filter_append]
      congr 1
      cases hp : p xs[i] <;> simp [hp])
    (fun n => by rw [hu, if_neg (lt_no (Nat.le_refl _)), List.take_length]) hk
  simpa using this
theorem sum_filter {α : Type} (f : α → Nat) (p : α → Bool) : ∀ xs : List α, sumBk f (xs.filter p) ≤ sumBk f xs
  | [] => Nat.le_refl _
  | x :: xs => by
    have h := sum_filter f p xs
    simp only [sumBk] at h ⊢
    rw [List.filter_cons]
    split <;> simp only [List.map_cons, List.sum_cons] <;> omega
theorem bkS_filter {α : Type} (f : α → Nat) (p : α → Bool) (xs : List α) : bkS f (xs.filter p) ≤ bkS f xs := by
  have h1 := sum_filter f p xs
  have h2 := List.length_filter_le p xs
  unfold bkS; omega
def keepE (nb : TNotebook) (es : List TEntry) : List TEntry := es.filter fun x => decide (0 ≤ cix nb x.cell)
def restB (e : TEngine) : Nat := e.world.bk + (bkS TTape.bk e.tapes + bkS TEntry.bk e.entries)
theorem rest_eq (e : TEngine) : e.bk = e.notebook.bk + restB e := by rw [TEngine.bk_eq]; unfold restB; omega
def editE (e : TEngine) (x : TEdit) : TEngine × Int :=
  if (applyE e.notebook x).2 = 0 then (⟨(applyE e.notebook x).1, e.world, e.tapes, keepE (applyE e.notebook x).1 e.entries, e.next, e.limit, e.work⟩, 0) else (e, (applyE e.notebook x).2)
theorem editE_bk (e : TEngine) (hn : e.notebook.bk ≤ 1048576) (x : TEdit) (bx : x.bk ≤ 1048576) : (editE e x).1.notebook.bk ≤ 1048576 ∧ restB (editE e x).1 ≤ restB e := by
  have h := applyE_bk e.notebook hn x bx
  have h2 := bkS_filter TEntry.bk (fun y => decide (0 ≤ cix (applyE e.notebook x).1 y.cell)) e.entries
  unfold editE
  split
  · refine ⟨h, ?_⟩
    unfold restB keepE; simp only; omega
  · exact ⟨hn, Nat.le_refl _⟩
theorem EditEngine_eq (e : TEngine) (hn : e.notebook.bk ≤ 1048576) (hr : restB e ≤ 1048576) (x : TEdit) (bx : x.bk ≤ 1048576) :
    Ev fun k => s_EditEngine k e x = some (editE e x) ∧ i_EditEngine k e x = some (editE e x) := by
  have hb := rest_eq e
  have hs := s_engineCopy e (by omega)
  have hi := i_engineCopy e (by omega)
  have hel : e.entries.length ≤ 1048576 := by have := bkS_len (f := TEntry.bk) (xs := e.entries); unfold restB at hr; omega
  have hab := applyE_bk e.notebook hn x bx
  have hal := nb_len (applyE e.notebook x).1
  have hev : Ev fun k => ∀ y ∈ e.entries, s_l28Entry k y = some y := Ev.all e.entries fun y hy => by
    have h1 := bkS_get (f := TEntry.bk) hy
    have h2 := y.bks
    refine (s_valueCopy y.value (by unfold restB at hr; omega)).mono fun k hk => ?_
    unfold s_l28Entry
    rw [app_big (by simp; unfold restB at hr; omega) (by omega), Option.bind_some, hk]; rfl
  refine ((hs.and hi).and (hev.and (Ev.ge 2000000))).mono ?_
  rintro k ⟨⟨h1, h2⟩, h3, hk⟩
  obtain ⟨a1, a2⟩ := ApplyEdit_eq e.notebook hn x bx (show 1048600 < k by omega)
  have loopS : s_EditEngine_u1 k e (applyE e.notebook x) k [] 0 = some (keepE (applyE e.notebook x).1 e.entries) :=
    keep_loop e.entries (fun y => decide (0 ≤ cix (applyE e.notebook x).1 y.cell)) (fun y out => (s_CellIndex k (applyE e.notebook x).1 y.cell).bind fun x8 => if (decide (0 ≤ x8)) = true then (s_l28Entry k y).bind fun x9 => (app? 168 out [x9]).bind fun x10 => some x10 else some out) (s_EditEngine_u1 k e (applyE e.notebook x))
      (fun y hy out ho => by
        try simp only
        rw [s_CellIndex_eq _ _ (by omega) (by omega), Option.bind_some, h3 y hy, Option.bind_some, app_big (by simp; omega) (by omega)]
        cases decide (0 ≤ cix (applyE e.notebook x).1 y.cell) <;> rfl)
      (fun n out i => by rw [s_EditEngine_u1]; try simp only [Option.bind_assoc]) (by omega) (by omega)
  have loopI : i_EditEngine_u1 k e (applyE e.notebook x) k [] 0 = some (keepE (applyE e.notebook x).1 e.entries) :=
    keep_loop e.entries (fun y => decide (0 ≤ cix (applyE e.notebook x).1 y.cell)) (fun y out => (i_CellIndex k (applyE e.notebook x).1 y.cell).bind fun x8 => if (decide (0 ≤ x8)) = true then (app? 168 out [y]).bind fun x10 => some x10 else some out) (i_EditEngine_u1 k e (applyE e.notebook x))
      (fun y hy out ho => by
        try simp only
        rw [i_CellIndex_eq _ _ (by omega) (by omega), Option.bind_some, app_big (by simp; omega) (by omega)]
        cases decide (0 ≤ cix (applyE e.notebook x).1 y.cell) <;> rfl)
      (fun n out i => by rw [i_EditEngine_u1]; try simp only [Option.bind_assoc]) (by omega) (by omega)
  unfold s_EditEngine i_EditEngine editE
  rw [a1, a2, h1, h2]
  simp only [Option.bind_some]
  rw [loopS, loopI]
  by_cases h0 : (applyE e.notebook x).2 = 0
  · simp [h0]
  · simp [h0]
end Go.Proofs.YtbknilpmpjjfpaaGreat
