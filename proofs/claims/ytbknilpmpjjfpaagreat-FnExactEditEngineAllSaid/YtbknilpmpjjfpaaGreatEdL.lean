/- Edits of notebooks: the program's and the reference's answer alike. -/
import Derived.Test.YtbknilpmpjjfpaaGreatNbL
import Derived.Test.YtbknilpmpjjfpaaGreatCeL
import Derived.Test.YtbknilpmpjjfpaaGreatMd0
import Derived.Test.YtbknilpmpjjfpaaGreatMd1
import Derived.Test.YtbknilpmpjjfpaaGreatMd3
set_option linter.unusedSimpArgs false
set_option linter.unusedVariables false
namespace Go.Proofs.YtbknilpmpjjfpaaGreat
open Go.RowKit Am
def clampN (at_ : Int) (n : Nat) : Nat := if at_ ≤ 0 then 0 else if (n : Int) ≤ at_ then n else at_.toNat
theorem clampN_le (a : Int) (n : Nat) : clampN a n ≤ n := by unfold clampN; split <;> (try split) <;> omega
theorem clamp_s (a : Int) (n : Nat) : ((s_l1Min a (n : Int)).bind fun x => s_l1Max 0 x) = some (clampN a n : Int) := by
  unfold s_l1Min s_l1Max clampN
  by_cases h1 : a < n
  · by_cases h2 : a < 0
    · simp [h1, h2, show a ≤ 0 by omega]
    · by_cases h3 : a ≤ 0
      · simp [h1, h2, h3]; omega
      · simp [h1, h2, h3, show ¬ (n : Int) ≤ a by omega]; omega
  · by_cases h3 : a ≤ 0
    · simp [h1, h3]; omega
    · simp [h1, h3, show (n : Int) ≤ a by omega]; omega
theorem clamp_i (a : Int) (n : Nat) : (if (if (n : Int) < a then (n : Int) else a) > 0 then (if (n : Int) < a then (n : Int) else a) else 0) = (clampN a n : Int) := by
  unfold clampN
  by_cases h1 : (n : Int) < a
  · by_cases h2 : (n : Int) > 0
    · simp [h1, h2, show ¬ a ≤ 0 by omega, show (n : Int) ≤ a by omega]; intro h; omega
    · simp [h1, h2, show ¬ a ≤ 0 by omega, show (n : Int) ≤ a by omega]; omega
  · by_cases h2 : a > 0
    · by_cases h3 : (n : Int) ≤ a
      · simp [h1, h2, show ¬ a ≤ 0 by omega, h3]; omega
      · simp [h1, h2, show ¬ a ≤ 0 by omega, h3]; omega
    · simp [h1, h2, show a ≤ 0 by omega]
def putC (xs : List TCell) (at_ : Int) (c : TCell) : List TCell := xs.take (clampN at_ xs.length) ++ [c] ++ xs.drop (clampN at_ xs.length)
def dropC (xs : List TCell) (j : Nat) : List TCell := xs.take j ++ xs.drop (j + 1)
theorem sub_take {α : Type} (xs : List α) (n : Nat) (h : n ≤ xs.length) : sub? xs 0 (n : Int) = some (xs.take n) := by
  unfold sub?
  rw [if_pos ⟨by omega, by omega, by omega⟩]; simp
theorem sub_drop {α : Type} (xs : List α) (n : Nat) (h : n ≤ xs.length) : sub? xs (n : Int) (xs.length : Int) = some (xs.drop n) := by
  unfold sub?
  rw [if_pos ⟨by omega, by omega, by omega⟩]; simp
theorem s_put (xs : List TCell) (a : Int) (c : TCell) (hl : xs.length ≤ 1048576) : s_l20Put xs a c = some (putC xs a c) := by
  have hc := clampN_le a xs.length
  have h1 := clamp_s a xs.length
  unfold s_l20Put
  rw [show ∀ f : Int → Option (List TCell), ((s_l1Min a (xs.length : Int)).bind fun x1 => (s_l1Max 0 x1).bind f) = (((s_l1Min a (xs.length : Int)).bind fun x1 => s_l1Max 0 x1).bind f) from fun f => by rw [Option.bind_assoc]]
  rw [h1, Option.bind_some, sub_take xs _ hc, Option.bind_some, app_big (by simp; omega) (by omega), Option.bind_some, app_big (by simp; omega) (by omega), Option.bind_some, sub_drop xs _ hc, Option.bind_some, app_big (by simp; omega) (by omega)]
  rfl
theorem i_put (xs : List TCell) (a : Int) (c : TCell) (hl : xs.length ≤ 1048576) : i_inserted xs a c = some (putC xs a c) := by
  have hc := clampN_le a xs.length
  unfold i_inserted
  rw [clamp_i a xs.length, sub_take xs _ hc, Option.bind_some, app_big (by simp; omega) (by omega), Option.bind_some, app_big (by simp; omega) (by omega), Option.bind_some, sub_drop xs _ hc, Option.bind_some, app_big (by simp; omega) (by omega)]
  rfl
theorem s_drop (xs : List TCell) (j : Nat) (hj : j < xs.length) (hl : xs.length ≤ 1048576) : s_l20Drop xs (j : Int) = some (dropC xs j) := by
  unfold s_l20Drop
  rw [wS j (by omega), sub_take xs j (by omega), Option.bind_some, app_big (by simp; omega) (by omega), Option.bind_some, sub_drop xs (j + 1) (by omega), Option.bind_some, app_big (by simp; omega) (by omega)]
  rfl
theorem i_drop (xs : List TCell) (j : Nat) (hj : j < xs.length) (hl : xs.length ≤ 1048576) : i_removed xs (j : Int) = some (dropC xs j) := by
  unfold i_removed
  rw [wS j (by omega), sub_take xs j (by omega), Option.bind_some, app_big (by simp; omega) (by omega), Option.bind_some, sub_drop xs (j + 1) (by omega), Option.bind_some, app_big (by simp; omega) (by omega)]
  rfl
theorem nameOk_size {s : ByteArray} (h : nameOk s = true) : s.size ≤ 8 := by
  unfold nameOk at h
  simp only [Bool.and_eq_true, decide_eq_true_eq] at h
  omega
theorem cellOk_small {c : TCell} (h : cellOk c = true) : c.bk ≤ 128 := by
  have hp : c.code.size ≤ 120 := by
    unfold cellOk printOk at h
    simp only [Bool.and_eq_true, decide_eq_true_eq] at h
    omega
  have hn : c.name.size ≤ 8 := by
    unfold cellOk at h
    simp only [Bool.and_eq_true] at h
    have h2 := h.2
    split at h2
    · simp only [Bool.and_eq_true, decide_eq_true_eq] at h2; rw [h2.1]; decide
    · split at h2
      · simp only [Bool.and_eq_true] at h2; exact nameOk_size h2.1
      · split at h2
        · simp only [Bool.and_eq_true] at h2; exact nameOk_size h2.1
        · cases h2
  rw [TCell.bk_eq]; omega
theorem anyI_false {α : Type} {t : Nat → α → Bool} : ∀ {xs : List α} {i : Nat}, anyI t i xs = false → ∀ x ∈ xs, ∃ j, t j x = false
  | [], _, _, x, hx => by simp at hx
  | y :: ys, i, h, x, hx => by
    simp only [anyI, Bool.or_eq_false_iff] at h
    rcases List.mem_cons.1 hx with rfl | hx
    · exact ⟨i, h.1⟩
    · exact anyI_false h.2 x hx
theorem nbOk_cells {nb : TNotebook} (h : nbOk nb = true) : nb.cells.length ≤ 8 ∧ ∀ c ∈ nb.cells, cellOk c = true := by
  unfold nbOk at h
  simp only [Bool.and_eq_true, Bool.not_eq_true', decide_eq_true_eq] at h
  refine ⟨by omega, fun c hc => ?_⟩
  obtain ⟨j, hj⟩ := anyI_false h.1 c hc
  unfold cellBad at hj
  simp only [Bool.or_eq_false_iff, Bool.not_eq_false'] at hj
  exact hj.1
theorem sum_small {α : Type} (f : α → Nat) (B : Nat) : ∀ (xs : List α), (∀ x ∈ xs, f x ≤ B) → sumBk f xs ≤ xs.length * B
  | [], _ => by simp [sumBk]
  | x :: xs, h => by
    have h1 := sum_small f B xs fun y hy => h y (List.mem_cons_of_mem _ hy)
    have h2 := h x (by simp)
    simp only [sumBk, List.map_cons, List.sum_cons, List.length_cons] at h1 ⊢
    rw [Nat.add_mul]; omega
theorem nb_small (xs : List TCell) (hl : xs.length ≤ 9) (h : ∀ c ∈ xs, cellOk c = true) : (TNotebook.mk xs).bk ≤ 4096 := by
  have h1 := sum_small TCell.bk 128 xs fun c hc => cellOk_small (h c hc)
  rw [TNotebook.bk_eq]
  unfold bkS
  simp only
  omega
theorem mem_putC {xs : List TCell} {a : Int} {c x : TCell} (h : x ∈ putC xs a c) : x ∈ xs ∨ x = c := by
  unfold putC at h
  simp only [List.mem_append, List.mem_singleton] at h
  rcases h with (h | h) | h
  · exact .inl (List.mem_of_mem_take h)
  · exact .inr h
  · exact .inl (List.mem_of_mem_drop h)
theorem len_putC (xs : List TCell) (a : Int) (c : TCell) : (putC xs a c).length = xs.length + 1 := by
  have := clampN_le a xs.length
  unfold putC
  simp; omega
theorem mem_dropC {xs : List TCell} {j : Nat} {x : TCell} (h : x ∈ dropC xs j) : x ∈ xs := by
  unfold dropC at h
  rcases List.mem_append.1 h with h | h
  · exact List.mem_of_mem_take h
  · exact List.mem_of_mem_drop h
theorem len_dropC (xs : List TCell) (j : Nat) : (dropC xs j).length ≤ xs.length := by
  unfold dropC; simp; omega
def cellE (c : TCell) (e : TEdit) : TCell :=
  if e.kind = 4 then ⟨c.id, c.version + 1, c.kind, e.cell.name, e.cell.code, c.n⟩
  else if e.kind = 5 then ⟨c.id, c.version, c.kind, c.name, c.code, e.cell.n⟩
  else ⟨c.id, c.version + 1, c.kind, c.name, c.code, c.n⟩
def applyE (nb : TNotebook) (e : TEdit) : TNotebook × Int :=
  if nbOk nb = false then (nb, 1) else if (decide (1 ≤ e.kind) && decide (e.kind ≤ 6)) = false then (nb, 1)
  else if e.kind = 1 then
    if cellOk e.cell = false then (nb, 1) else if 0 ≤ cix nb e.cell.id then (nb, 3) else if nb.cells.length = 8 then (nb, 4) else (⟨putC nb.cells e.at_ e.cell⟩, 0)
  else if cix nb e.cell.id < 0 then (nb, 2)
  else match nb.cells[(cix nb e.cell.id).toNat]? with
    | none => (nb, 0)
    | some c => if e.kind = 2 then (⟨dropC nb.cells (cix nb e.cell.id).toNat⟩, 0) else if e.kind = 3 then (⟨putC (dropC nb.cells (cix nb e.cell.id).toNat) e.at_ c⟩, 0)
      else if (e.kind = 4 ∧ c.kind = 3) ∨ (e.kind = 5 ∧ ¬ c.kind = 3) ∨ (e.kind = 6 ∧ ¬ c.kind = 2) then (nb, 5)
      else if ¬ e.kind = 5 ∧ c.version = 999 then (nb, 6)
      else if cellOk (cellE c e) = false then (nb, 1) else (⟨nb.cells.set (cix nb e.cell.id).toNat (cellE c e)⟩, 0)
theorem ApplyEdit_same (nb : TNotebook) (b : nb.bk ≤ 1048576) (e : TEdit) (be : e.bk ≤ 1048576) {k : Nat} (hk : 1048600 < k) : ∃ v : TNotebook × Int, v = applyE nb e ∧ (v.1 = nb ∨ v.1.bk ≤ 4096) ∧ s_ApplyEdit k nb e = some v ∧ i_ApplyEdit k nb e = some v := by
  have hl := nb_len nb
  have hec : e.cell.bk ≤ 1048576 := by rw [TEdit.bk_eq] at be; omega
  obtain ⟨v1, v2⟩ := validNotebook nb b hk
  obtain ⟨c1, c2⟩ := notebookCopy nb (by omega)
  obtain ⟨ec1, ec2⟩ := validCell e.cell hec hk
  have ix1 := s_CellIndex_eq nb e.cell.id (by omega) (show nb.cells.length < k by omega)
  have ix2 := i_CellIndex_eq nb e.cell.id (by omega) (show nb.cells.length < k by omega)
  unfold s_ApplyEdit i_ApplyEdit
  rw [c1, c2, v1, v2]
  simp only [Option.bind_some, l1In_eq, within_eq]
  cases hv : nbOk nb with
  | false => exact ⟨(nb, 1), by simp [applyE, hv], .inl rfl, by simp, by simp⟩
  | true =>
  obtain ⟨n8, hcs⟩ := nbOk_cells hv
  simp only [Bool.not_true, Bool.false_eq_true, if_false, Option.bind_some]
  cases hkd : decide (1 ≤ e.kind) && decide (e.kind ≤ 6) with
  | false => exact ⟨(nb, 1), by simp [applyE, hv, hkd], .inl rfl, by simp, by simp⟩
  | true =>
  simp only [Bool.not_true, Bool.false_eq_true, if_false]
  unfold i_change
  rw [ix1, ix2]
  simp only [Option.bind_some]
  have small : ∀ xs : List TCell, xs.length ≤ 9 → (∀ c ∈ xs, cellOk c = true) → i_copyNotebook ⟨xs⟩ = some ⟨xs⟩ ∧ (TNotebook.mk xs).bk ≤ 4096 := fun xs h1 h2 => by
    have h3 := nb_small xs h1 h2
    exact ⟨(notebookCopy _ (by omega)).2, h3⟩
  by_cases k1 : e.kind = 1
  · simp only [k1, decide_true, if_true, ec1, ec2, Option.bind_some]
    cases hc : cellOk e.cell with
    | false => exact ⟨(nb, 1), by simp [applyE, hv, hkd, k1, hc], .inl rfl, by simp, by simp [c2]⟩
    | true =>
    simp only [Bool.not_true, Bool.false_eq_true, if_false]
    by_cases k2 : 0 ≤ cix nb e.cell.id
    · exact ⟨(nb, 3), by simp [applyE, hv, hkd, k1, hc, k2], .inl rfl, by simp [k2], by simp [k2, c2]⟩
    · by_cases k3 : nb.cells.length = 8
      · exact ⟨(nb, 4), by simp [applyE, hv, hkd, k1, hc, k2, k3], .inl rfl, by simp [k2, k3], by simp [k2, k3, c2]⟩
      · obtain ⟨q1, q2⟩ := small (putC nb.cells e.at_ e.cell) (by rw [len_putC]; omega) fun c hc' => by rcases mem_putC hc' with h | rfl; exact hcs c h; exact hc
        refine ⟨(⟨putC nb.cells e.at_ e.cell⟩, 0), by simp [applyE, hv, hkd, k1, hc, k2, k3], .inr q2, ?_, ?_⟩
        · have : ¬ (nb.cells.length : Int) = 8 := by omega
          simp [k2, this, s_put nb.cells e.at_ e.cell (by omega)]
        · have : ¬ (8 ≤ (nb.cells.length : Int)) := by omega
          simp [k2, this, i_put nb.cells e.at_ e.cell (by omega), q1]
  · simp only [k1, decide_false, Bool.false_eq_true, if_false]
    have hb := find1_bd (fun x : TCell => decide (x.id = e.cell.id)) nb.cells
    by_cases k2 : cix nb e.cell.id < 0
    · exact ⟨(nb, 2), by simp [applyE, hv, hkd, k1, k2], .inl rfl, by simp [k2], by simp [k2, c2]⟩
    · obtain ⟨j, hj⟩ : ∃ j : Nat, cix nb e.cell.id = (j : Int) := ⟨(cix nb e.cell.id).toNat, by omega⟩
      have hjl : j < nb.cells.length := by unfold cix at hj; omega
      rw [hj]
      have hat := at_in hjl
      have hx9 : nb.cells[j]? = some nb.cells[j] := List.getElem?_eq_getElem hjl
      have hcj : cellOk nb.cells[j] = true := hcs _ (List.getElem_mem hjl)
      have k2' : ¬ ((j : Int) < 0) := by omega
      simp only [k2', decide_false, Bool.false_eq_true, if_false, hat, Option.bind_some]
      by_cases k3 : e.kind = 2
      · obtain ⟨q1, q2⟩ := small (dropC nb.cells j) (by have := len_dropC nb.cells j; omega) fun c hc => hcs c (mem_dropC hc)
        refine ⟨(⟨dropC nb.cells j⟩, 0), by simp [applyE, hv, hkd, k1, hj, hx9, k3], .inr q2, ?_, ?_⟩
        · simp [k3, s_drop nb.cells j hjl (by omega)]
        · simp [k3, i_drop nb.cells j hjl (by omega), q1]
      · simp only [k3, decide_false, Bool.false_eq_true, if_false]
        by_cases k4 : e.kind = 3
        · have hd := len_dropC nb.cells j
          obtain ⟨q1, q2⟩ := small (putC (dropC nb.cells j) e.at_ nb.cells[j]) (by rw [len_putC]; omega) fun c hc => by rcases mem_putC hc with h | rfl; exact hcs c (mem_dropC h); exact hcj
          refine ⟨(⟨putC (dropC nb.cells j) e.at_ nb.cells[j]⟩, 0), by simp [applyE, hv, hkd, k1, hj, hx9, k3, k4], .inr q2, ?_, ?_⟩
          · simp [k4, s_drop nb.cells j hjl (by omega), s_put (dropC nb.cells j) e.at_ nb.cells[j] (by omega)]
          · simp [k4, i_drop nb.cells j hjl (by omega), i_put (dropC nb.cells j) e.at_ nb.cells[j] (by omega), q1]
        · simp only [k4, decide_false, Bool.false_eq_true, if_false]
          generalize hx : nb.cells[j] = c at *
          have hcb : c.bk ≤ 1048576 := by have := cellOk_small hcj; omega
          have ver : c.version ≤ 999 := by unfold cellOk at hcj; simp only [Bool.and_eq_true, decide_eq_true_eq] at hcj; omega
          have fin : ∀ d : TCell, cellOk d = true → (TNotebook.mk (nb.cells.set j d)).bk ≤ 4096 ∧ i_copyNotebook ⟨nb.cells.set j d⟩ = some ⟨nb.cells.set j d⟩ := fun d hd => by
            obtain ⟨q1, q2⟩ := small (nb.cells.set j d) (by simp; omega) fun x hx => by
              rcases List.mem_or_eq_of_mem_set hx with h | rfl
              · exact hcs x h
              · exact hd
            exact ⟨q2, q1⟩
          have leaf : ∀ d : TCell, d.bk ≤ 1048576 → (cellOk d = false → ∃ v : TNotebook × Int, v = (nb, 1) ∧ (v.1 = nb ∨ v.1.bk ≤ 4096)) ∧ (cellOk d = true → (TNotebook.mk (nb.cells.set j d)).bk ≤ 4096) := fun d hd => ⟨fun _ => ⟨_, rfl, .inl rfl⟩, fun h => (fin d h).1⟩
          have hcn := TCell.bk_eq c
          have hen := TCell.bk_eq e.cell
          have wv : ¬ c.version = 999 → IntKind.i64.wrap (c.version + 1) = c.version + 1 := fun _ => w64 (by unfold cellOk at hcj; simp only [Bool.and_eq_true, decide_eq_true_eq] at hcj; omega) (by omega)
          have v999 : decide (999 ≤ c.version) = decide (c.version = 999) := by rw [decide_eq_decide]; omega
          have k456 : e.kind = 4 ∨ e.kind = 5 ∨ e.kind = 6 := by
            simp only [Bool.and_eq_true, decide_eq_true_eq] at hkd; omega
          rcases k456 with k5 | k5 | k5
          · by_cases c3 : c.kind = 3
            · exact ⟨(nb, 5), by simp [applyE, hv, hkd, k1, hj, hx9, cellE, k5, c3], .inl rfl, by simp [s_l20Cell, k5, c3], by simp [k5, c3, c2]⟩
            · by_cases cv : c.version = 999
              · exact ⟨(nb, 6), by simp [applyE, hv, hkd, k1, hj, hx9, cellE, k5, c3, cv], .inl rfl, by simp [s_l20Cell, k5, c3, cv], by simp [k5, c3, cv, c2]⟩
              · have hd : (TCell.mk c.id (c.version + 1) c.kind e.cell.name e.cell.code c.n).bk ≤ 1048576 := by rw [TCell.bk_eq]; simp only; omega
                obtain ⟨w1, w2⟩ := validCell _ hd hk
                cases hdk : cellOk (TCell.mk c.id (c.version + 1) c.kind e.cell.name e.cell.code c.n) with
                | false => exact ⟨(nb, 1), by simp [applyE, hv, hkd, k1, hj, hx9, cellE, k5, c3, cv, hdk], .inl rfl, by simp [s_l20Cell, k5, c3, cv, wv cv, w1, hdk], by simp [k5, c3, v999, cv, wv cv, w2, hdk, c2]⟩
                | true =>
                  obtain ⟨f1, f2⟩ := fin _ hdk
                  exact ⟨(⟨nb.cells.set j (TCell.mk c.id (c.version + 1) c.kind e.cell.name e.cell.code c.n)⟩, 0), by simp [applyE, hv, hkd, k1, hj, hx9, cellE, k5, c3, cv, hdk], .inr f1, by simp [s_l20Cell, k5, c3, cv, wv cv, w1, hdk, hat], by simp [k5, c3, v999, cv, wv cv, w2, hdk, c2, f2, hat]⟩
          · by_cases c3 : c.kind = 3
            · have hd : (TCell.mk c.id c.version c.kind c.name c.code e.cell.n).bk ≤ 1048576 := by rw [TCell.bk_eq]; simp only; omega
              obtain ⟨w1, w2⟩ := validCell _ hd hk
              cases hdk : cellOk (TCell.mk c.id c.version c.kind c.name c.code e.cell.n) with
              | false => exact ⟨(nb, 1), by rw [c3] at hdk; simp [applyE, hv, hkd, k1, hj, hx9, cellE, k5, c3, hdk], .inl rfl, by rw [c3] at w1 hdk; simp [s_l20Cell, k5, c3, w1, hdk], by rw [c3] at w2 hdk; simp [k5, c3, w2, hdk, c2]⟩
              | true =>
                obtain ⟨f1, f2⟩ := fin _ hdk
                exact ⟨(⟨nb.cells.set j (TCell.mk c.id c.version c.kind c.name c.code e.cell.n)⟩, 0), by rw [c3] at hdk; simp [applyE, hv, hkd, k1, hj, hx9, cellE, k5, c3, hdk], .inr f1, by rw [c3] at w1 hdk; simp [s_l20Cell, k5, c3, w1, hdk, hat], by rw [c3] at w2 hdk f2; simp [k5, c3, w2, hdk, c2, f2, hat]⟩
            · exact ⟨(nb, 5), by simp [applyE, hv, hkd, k1, hj, hx9, cellE, k5, c3], .inl rfl, by simp [s_l20Cell, k5, c3], by simp [k5, c3, c2]⟩
          · by_cases c3 : c.kind = 2
            · by_cases cv : c.version = 999
              · exact ⟨(nb, 6), by simp [applyE, hv, hkd, k1, hj, hx9, cellE, k5, c3, cv], .inl rfl, by simp [s_l20Cell, k5, c3, cv], by simp [k5, c3, cv, c2]⟩
              · have hd : (TCell.mk c.id (c.version + 1) c.kind c.name c.code c.n).bk ≤ 1048576 := by rw [TCell.bk_eq]; simp only; omega
                obtain ⟨w1, w2⟩ := validCell _ hd hk
                cases hdk : cellOk (TCell.mk c.id (c.version + 1) c.kind c.name c.code c.n) with
                | false => exact ⟨(nb, 1), by rw [c3] at hdk; simp [applyE, hv, hkd, k1, hj, hx9, cellE, k5, c3, cv, hdk], .inl rfl, by rw [c3] at w1 hdk; simp [s_l20Cell, k5, c3, cv, wv cv, w1, hdk], by rw [c3] at w2 hdk; simp [k5, c3, v999, cv, wv cv, w2, hdk, c2]⟩
                | true =>
                  obtain ⟨f1, f2⟩ := fin _ hdk
                  exact ⟨(⟨nb.cells.set j (TCell.mk c.id (c.version + 1) c.kind c.name c.code c.n)⟩, 0), by rw [c3] at hdk; simp [applyE, hv, hkd, k1, hj, hx9, cellE, k5, c3, cv, hdk], .inr f1, by rw [c3] at w1 hdk; simp [s_l20Cell, k5, c3, cv, wv cv, w1, hdk, hat], by rw [c3] at w2 hdk f2; simp [k5, c3, v999, cv, wv cv, w2, hdk, c2, f2, hat]⟩
            · exact ⟨(nb, 5), by simp [applyE, hv, hkd, k1, hj, hx9, cellE, k5, c3], .inl rfl, by simp [s_l20Cell, k5, c3], by simp [k5, c3, c2]⟩
theorem ApplyEdit_eq (nb : TNotebook) (b : nb.bk ≤ 1048576) (e : TEdit) (be : e.bk ≤ 1048576) {k : Nat} (hk : 1048600 < k) : s_ApplyEdit k nb e = some (applyE nb e) ∧ i_ApplyEdit k nb e = some (applyE nb e) := by
  obtain ⟨v, rfl, _, h⟩ := ApplyEdit_same nb b e be hk
  exact h
theorem applyE_bk (nb : TNotebook) (b : nb.bk ≤ 1048576) (e : TEdit) (be : e.bk ≤ 1048576) : (applyE nb e).1.bk ≤ 1048576 := by
  obtain ⟨v, rfl, h, _⟩ := ApplyEdit_same nb b e be (show 1048600 < 1048601 by omega)
  rcases h with h | h
  · rw [h]; exact b
  · omega
end Go.Proofs.YtbknilpmpjjfpaaGreat
