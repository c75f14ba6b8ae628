/- Copies of tapes and engines. -/
import Derived.Test.YtbknilpmpjjfpaaGreatCvL
import Derived.Test.YtbknilpmpjjfpaaGreatLs
import Derived.Test.YtbknilpmpjjfpaaGreatMd0
import Derived.Test.YtbknilpmpjjfpaaGreatMd1
import Derived.Test.YtbknilpmpjjfpaaGreatMd2
import Derived.Test.YtbknilpmpjjfpaaGreatEq1
set_option linter.unusedSimpArgs false
set_option linter.unusedVariables false
namespace Go.Proofs.YtbknilpmpjjfpaaGreat
open Go.RowKit Am
theorem TRead.res_bk (r : TRead) : r.result.bk ≤ r.bk := by rw [TRead.bk_eq]; omega
theorem s_readCopy (r : TRead) (h : r.bk ≤ 1073741824) : Ev fun k => s_l16Read k r = some r := by
  refine (s_valueCopy r.result (by have := r.res_bk; omega)).mono fun k e => ?_
  unfold s_l16Read; rw [e]; rfl
theorem s_readsCopy (xs : List TRead) (h : bkS TRead.bk xs ≤ 1073741824) : Ev fun k => s_l16Reads k xs = some xs := by
  have l := bkS_len (f := TRead.bk) (xs := xs)
  refine ((Ev.all xs fun y hy => s_readCopy y (by have := bkS_get (f := TRead.bk) hy; omega)).and (Ev.ge (xs.length + 1))).mono ?_
  rintro k ⟨hx, hk⟩
  unfold s_l16Reads
  rw [copy_loop 152 (by omega) xs (s_l16Read k) (s_l16Reads_u1 k xs) hx (fun n out i => by rw [s_l16Reads_u1]) (by omega) (by omega)]; rfl
theorem i_readsCopy (xs : List TRead) (h : bkS TRead.bk xs ≤ 1073741824) : Ev fun k => i_copyReads k xs = some xs := by
  have l := bkS_len (f := TRead.bk) (xs := xs)
  refine ((Ev.all xs fun y hy => i_valueCopy y.result (by have := bkS_get (f := TRead.bk) hy; have := y.res_bk; omega)).and (Ev.ge (xs.length + 1))).mono ?_
  rintro k ⟨hx, hk⟩
  unfold i_copyReads
  rw [copy_loop 152 (by omega) xs (fun x => (i_copyValue k x.result).bind fun y => some ⟨x.kind, x.n, x.time, x.text, y⟩) (i_copyReads_u1 k xs) (fun x hm => by rw [hx x hm]; rfl) (fun n out i => by rw [i_copyReads_u1]; simp only [Option.bind_assoc, Option.bind_some]) (by omega) (by omega)]; rfl
theorem TTape.reads_bk (t : TTape) : bkS TRead.bk t.reads ≤ t.bk := by rw [TTape.bk_eq]; omega
theorem s_tapesCopy (xs : List TTape) (h : bkS TTape.bk xs ≤ 1073741824) : Ev fun k => s_l26Copy k xs = some xs := by
  have l := bkS_len (f := TTape.bk) (xs := xs)
  refine ((Ev.all xs fun y hy => s_readsCopy y.reads (by have := bkS_get (f := TTape.bk) hy; have := y.reads_bk; omega)).and (Ev.ge (xs.length + 1))).mono ?_
  rintro k ⟨hx, hk⟩
  unfold s_l26Copy
  rw [copy_loop 40 (by omega) xs (fun x => (s_l16Reads k x.reads).bind fun y => some ⟨x.cell, x.version, y⟩) (s_l26Copy_u1 k xs) (fun x hm => by rw [hx x hm]; rfl) (fun n out i => by rw [s_l26Copy_u1]; simp only [Option.bind_assoc, Option.bind_some]) (by omega) (by omega)]; rfl
theorem i_tapesCopy (xs : List TTape) (h : bkS TTape.bk xs ≤ 1073741824) : Ev fun k => i_copyTapes k xs = some xs := by
  have l := bkS_len (f := TTape.bk) (xs := xs)
  refine ((Ev.all xs fun y hy => i_readsCopy y.reads (by have := bkS_get (f := TTape.bk) hy; have := y.reads_bk; omega)).and (Ev.ge (xs.length + 1))).mono ?_
  rintro k ⟨hx, hk⟩
  unfold i_copyTapes
  rw [copy_loop 40 (by omega) xs (fun x => (i_copyReads k x.reads).bind fun y => some ⟨x.cell, x.version, y⟩) (i_copyTapes_u1 k xs) (fun x hm => by rw [hx x hm]; rfl) (fun n out i => by rw [i_copyTapes_u1]; simp only [Option.bind_assoc, Option.bind_some]) (by omega) (by omega)]; rfl
theorem TEntry.bks (x : TEntry) : x.value.bk ≤ x.bk ∧ x.inputs.length ≤ x.bk := by
  have h := x.bk_eq
  have h3 := bkS_len (f := fun _ : Int => 0) (xs := x.inputs)
  constructor <;> omega
theorem TEngine.bks (e : TEngine) : e.notebook.bk ≤ e.bk ∧ e.world.bk ≤ e.bk ∧ bkS TTape.bk e.tapes ≤ e.bk ∧ bkS TEntry.bk e.entries ≤ e.bk := by
  have h := e.bk_eq
  refine ⟨by omega, by omega, by omega, by omega⟩
theorem notebookCopy (nb : TNotebook) (h : nb.bk ≤ 1073741824) : s_l17Copy nb = some nb ∧ i_copyNotebook nb = some nb := by
  have e := nb.bk_eq
  have l := bkS_len (f := TCell.bk) (xs := nb.cells)
  have : s_l17Copy nb = some nb := by unfold s_l17Copy; rw [app_big (by simp; omega) (by omega)]; rfl
  exact ⟨this, by rw [i_copyNotebook_eqv]; exact this⟩
theorem worldCopy (w : TWorld) (h : w.bk ≤ 1073741824) : s_l14Copy w = some w ∧ i_copyWorld w = some w := by
  have e := w.bk_eq
  have l := bkS_len (f := TFile.bk) (xs := w.files)
  have : s_l14Copy w = some w := by unfold s_l14Copy; rw [app_big (by simp; omega) (by omega)]; rfl
  exact ⟨this, by rw [i_copyWorld_eqv]; exact this⟩
theorem s_engineCopy (e : TEngine) (h : e.bk ≤ 1073741824) : Ev fun k => s_l28Copy k e = some e := by
  obtain ⟨h1, h2, h3, h4⟩ := e.bks
  have l := bkS_len (f := TEntry.bk) (xs := e.entries)
  refine ((s_tapesCopy e.tapes (by omega)).and ((Ev.all e.entries fun y hy => s_valueCopy y.value (by have := bkS_get (f := TEntry.bk) hy; have := y.bks; omega)).and (Ev.ge (e.entries.length + 1)))).mono ?_
  rintro k ⟨ht, hx, hk⟩
  unfold s_l28Copy
  rw [(notebookCopy e.notebook (by omega)).1, Option.bind_some, (worldCopy e.world (by omega)).1, Option.bind_some, ht, Option.bind_some,
    copy_loop 168 (by omega) e.entries (s_l28Entry k) (s_l28Copy_u1 k e) (fun x hm => by
      unfold s_l28Entry
      rw [app_big (by have := bkS_get (f := TEntry.bk) hm; have := x.bks; simp; omega) (by omega), Option.bind_some, hx x hm]; rfl) (fun n out i => by rw [s_l28Copy_u1]) (by omega) (by omega)]
  rfl
theorem i_engineCopy (e : TEngine) (h : e.bk ≤ 1073741824) : Ev fun k => i_copyEngine k e = some e := by
  obtain ⟨h1, h2, h3, h4⟩ := e.bks
  have l := bkS_len (f := TEntry.bk) (xs := e.entries)
  refine ((i_tapesCopy e.tapes (by omega)).and ((Ev.all e.entries fun y hy => i_valueCopy y.value (by have := bkS_get (f := TEntry.bk) hy; have := y.bks; omega)).and (Ev.ge (e.entries.length + 1)))).mono ?_
  rintro k ⟨ht, hx, hk⟩
  unfold i_copyEngine
  rw [(notebookCopy e.notebook (by omega)).2, Option.bind_some, (worldCopy e.world (by omega)).2, Option.bind_some, ht, Option.bind_some,
    copy_loop 168 (by omega) e.entries (fun x => (app? 8 ([] : List Int) x.inputs).bind fun x8 => (i_copyValue k x.value).bind fun x9 => some ⟨x.cell, x.version, x.stamp, x8, x9, x.has⟩) (i_copyEngine_u1 k e) (fun x hm => by
      try simp only
      rw [app_big (by have := bkS_get (f := TEntry.bk) hm; have := x.bks; simp; omega) (by omega), Option.bind_some, hx x hm]; rfl) (fun n out i => by rw [i_copyEngine_u1]; simp only [Option.bind_assoc, Option.bind_some]) (by omega) (by omega)]
  rfl
end Go.Proofs.YtbknilpmpjjfpaaGreat
