/- The laws' marks as contracts. Written by a program of mine. -/
import Derived.Test.YtmiboaogfjgkjaaGreatDoorPkC
import Derived.Test.YtmiboaogfjgkjaaGreatDoorPkT0
import Derived.Test.YtmiboaogfjgkjaaGreatDoorMkB
set_option linter.unusedSimpArgs false
set_option linter.unusedVariables false
namespace Go.Proofs.YtmiboaogfjgkjaaGreatDoor
open Go.RowKit Am
theorem fl_int (xs : List Int) : flE (xs.map D.int) = xs.map iC := by rw [flE_map]; rfl
theorem fl_string (xs : List ByteArray) : flE (xs.map D.str) = xs.map sC := by rw [flE_map]; rfl
theorem TCell.fl_d (x : TCell) : fl x.d = x.c := by
  simp only [TCell.d, fl, flL, TCell.c_eq, List.cons_append, List.nil_append, List.append_nil]
theorem TCell.fl_ds (xs : List TCell) : flE (xs.map TCell.d) = xs.map TCell.c := by rw [flE_map]; exact List.map_congr_left fun x _ => x.fl_d
theorem TNotebook.fl_d (x : TNotebook) : fl x.d = x.c := by
  simp only [TNotebook.d, fl, flL, TNotebook.c_eq, TCell.fl_ds, List.cons_append, List.nil_append, List.append_nil]
theorem mk_Notebook {k : Int} {x : TNotebook} {y : TNotebook × Int} (h : wr? TNotebook.markV TNotebook.cnV k x = some y) : MCtr Tryz.prog 13 (.agg x.c) k (.agg y.1.c) y.2 := by
  obtain ⟨h1, h2, h3, h4⟩ := wr_spec h
  rw [h1, h2, ← TNotebook.fl_d, ← TNotebook.fl_d]
  exact mark_agg (by unfold I64; omega) (by kernel_rfl) fun w v F a b e => markNotebook_run w x v F k a b e h3 h4
theorem TOrigin.fl_d (x : TOrigin) : fl x.d = x.c := by
  simp only [TOrigin.d, fl, flL, TOrigin.c_eq, List.cons_append, List.nil_append, List.append_nil]
theorem TOrigin.fl_ds (xs : List TOrigin) : flE (xs.map TOrigin.d) = xs.map TOrigin.c := by rw [flE_map]; exact List.map_congr_left fun x _ => x.fl_d
theorem TRow.fl_d (x : TRow) : fl x.d = x.c := by
  simp only [TRow.d, fl, flL, TRow.c_eq, fl_int, TOrigin.fl_ds, List.cons_append, List.nil_append, List.append_nil]
theorem TRow.fl_ds (xs : List TRow) : flE (xs.map TRow.d) = xs.map TRow.c := by rw [flE_map]; exact List.map_congr_left fun x _ => x.fl_d
theorem TValue.indM {p : TValue → Prop} (h : ∀ x, (∀ y ∈ x.list, p y) → p x) : ∀ x, p x
  | ⟨kind, n, step, text, list, columns, rows⟩ => h _ fun y hy => TValue.indM h y
termination_by x => SizeOf.sizeOf x
decreasing_by
  have := List.sizeOf_lt_of_mem hy
  simp at this ⊢; omega
theorem TValue.fl_d (x : TValue) : fl x.d = x.c := by
  refine TValue.indM (p := fun x => fl x.d = x.c) (fun x ih => ?_) x
  have e : flE (x.list.map TValue.d) = x.list.map TValue.c := by rw [flE_map]; exact List.map_congr_left ih
  simp only [TValue.d_eq, fl, flL, TValue.c_eq, e, fl_string, TRow.fl_ds, List.cons_append, List.nil_append, List.append_nil]
theorem TValue.fl_ds (xs : List TValue) : flE (xs.map TValue.d) = xs.map TValue.c := by rw [flE_map]; exact List.map_congr_left fun x _ => x.fl_d
theorem TRead.fl_d (x : TRead) : fl x.d = x.c := by
  simp only [TRead.d, fl, flL, TRead.c_eq, TValue.fl_d, TValue.c_eq, List.cons_append, List.nil_append, List.append_nil]
theorem TRead.fl_ds (xs : List TRead) : flE (xs.map TRead.d) = xs.map TRead.c := by rw [flE_map]; exact List.map_congr_left fun x _ => x.fl_d
theorem TTape.fl_d (x : TTape) : fl x.d = x.c := by
  simp only [TTape.d, fl, flL, TTape.c_eq, TRead.fl_ds, List.cons_append, List.nil_append, List.append_nil]
theorem TTape.fl_ds (xs : List TTape) : flE (xs.map TTape.d) = xs.map TTape.c := by rw [flE_map]; exact List.map_congr_left fun x _ => x.fl_d
theorem TRun.fl_d (x : TRun) : fl x.d = x.c := by
  simp only [TRun.d, fl, flL, TRun.c_eq, TValue.fl_ds, TTape.fl_ds, List.cons_append, List.nil_append, List.append_nil]
theorem mk_Run {k : Int} {x : TRun} {y : TRun × Int} (h : wr? TRun.markV TRun.cnV k x = some y) : MCtr Tryz.prog 14 (.agg x.c) k (.agg y.1.c) y.2 := by
  obtain ⟨h1, h2, h3, h4⟩ := wr_spec h
  rw [h1, h2, ← TRun.fl_d, ← TRun.fl_d]
  exact mark_agg (by unfold I64; omega) (by kernel_rfl) fun w v F a b e => markRun_run w x v F k a b e h3 h4
theorem TLine.fl_d (x : TLine) : fl x.d = x.c := by
  simp only [TLine.d, fl, flL, TLine.c_eq, List.cons_append, List.nil_append, List.append_nil]
theorem TLine.fl_ds (xs : List TLine) : flE (xs.map TLine.d) = xs.map TLine.c := by rw [flE_map]; exact List.map_congr_left fun x _ => x.fl_d
theorem mk_LineS {k : Int} {xs : List TLine} {y : List TLine × Int} (h : wr? TLine.markL TLine.cnL k xs = some y) : MCtr Tryz.prog 15 (.one (.sl (xs.map TLine.c))) k (.one (.sl (y.1.map TLine.c))) y.2 := by
  obtain ⟨h1, h2, h3, h4⟩ := wr_spec h
  rw [h1, h2, ← TLine.fl_ds, ← TLine.fl_ds]
  exact mark_sl (by unfold I64; omega) (by kernel_rfl) fun w v F a b e => markLineS_run w v xs F k a b e h3 h4
theorem hd_LineS {k z : Int} {xs ys : List TLine} (h : hd? k (TLine.cnL xs) = some z) (hy : ys = TLine.markL xs k) : Ctr Tryz.prog 16 [.one (.sl (ys.map TLine.c)), .one (.int .i64 k)] true [.one (.int .i64 z)] := by
  obtain ⟨h1, h2, h3⟩ := hd_spec h
  rw [h1, hy, ← TLine.fl_ds]
  exact held_sl (by unfold I64; omega) (by kernel_rfl) fun w v F a => heldLineS_run w v xs F k a h2 h3
end Go.Proofs.YtmiboaogfjgkjaaGreatDoor
