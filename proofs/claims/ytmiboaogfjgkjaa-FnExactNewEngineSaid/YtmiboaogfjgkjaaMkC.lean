/- The laws' marks as contracts. Written by a program of mine. -/
import Derived.Test.YtmiboaogfjgkjaaPkC
import Derived.Test.YtmiboaogfjgkjaaPkT0
import Derived.Test.YtmiboaogfjgkjaaPkT1
import Derived.Test.YtmiboaogfjgkjaaMkB
set_option linter.unusedSimpArgs false
set_option linter.unusedVariables false
namespace Go.Proofs.Ytmiboaogfjgkjaa
open Go.RowKit Am

theorem fl_int (xs : List Int) : flE (xs.map D.int) = xs.map iC := by rw [flE_map]; rfl
theorem fl_string (xs : List ByteArray) : flE (xs.map D.str) = xs.map sC := by rw [flE_map]; rfl
theorem TCell.fl_d (x : TCell) : fl x.d = x.c := by
  simp only [TCell.d, fl, flL, TCell.c_eq, List.cons_append, List.nil_append, List.append_nil]
theorem TCell.fl_ds (xs : List TCell) : flE (xs.map TCell.d) = xs.map TCell.c := by rw [flE_map]; exact List.map_congr_left fun x _ => x.fl_d
theorem mk_CellS {k : Int} {xs : List TCell} {y : List TCell × Int} (h : wr? TCell.markL TCell.cnL k xs = some y) : MCtr Try.prog 84 (.one (.sl (xs.map TCell.c))) k (.one (.sl (y.1.map TCell.c))) y.2 := by
  obtain ⟨h1, h2, h3, h4⟩ := wr_spec h
  rw [h1, h2, ← TCell.fl_ds, ← TCell.fl_ds]
  exact mark_sl (by unfold I64; omega) (by kernel_rfl) fun w v F a b e => markCellS_run w v xs F k a b e h3 h4
theorem hd_CellS {k z : Int} {xs ys : List TCell} (h : hd? k (TCell.cnL xs) = some z) (hy : ys = TCell.markL xs k) : Ctr Try.prog 153 [.one (.sl (ys.map TCell.c)), .one (.int .i64 k)] true [.one (.int .i64 z)] := by
  obtain ⟨h1, h2, h3⟩ := hd_spec h
  rw [h1, hy, ← TCell.fl_ds]
  exact held_sl (by unfold I64; omega) (by kernel_rfl) fun w v F a => heldCellS_run w v xs F k a h2 h3
theorem TNotebook.fl_d (x : TNotebook) : fl x.d = x.c := by
  simp only [TNotebook.d, fl, flL, TNotebook.c_eq, TCell.fl_ds, List.cons_append, List.nil_append, List.append_nil]
theorem TNotebook.fl_ds (xs : List TNotebook) : flE (xs.map TNotebook.d) = xs.map TNotebook.c := by rw [flE_map]; exact List.map_congr_left fun x _ => x.fl_d
theorem mk_Notebook {k : Int} {x : TNotebook} {y : TNotebook × Int} (h : wr? TNotebook.markV TNotebook.cnV k x = some y) : MCtr Try.prog 27 (.agg x.c) k (.agg y.1.c) y.2 := by
  obtain ⟨h1, h2, h3, h4⟩ := wr_spec h
  rw [h1, h2, ← TNotebook.fl_d, ← TNotebook.fl_d]
  exact mark_agg (by unfold I64; omega) (by kernel_rfl) fun w v F a b e => markNotebook_run w x v F k a b e h3 h4
theorem hd_Notebook {k z : Int} {x y : TNotebook} (h : hd? k x.cnV = some z) (hy : y = x.markV k) : Ctr Try.prog 106 [.agg y.c, .one (.int .i64 k)] true [.one (.int .i64 z)] := by
  obtain ⟨h1, h2, h3⟩ := hd_spec h
  rw [h1, hy, ← TNotebook.fl_d]
  exact held_agg (by unfold I64; omega) (by kernel_rfl) fun w v F a => heldNotebook_run w x v F k a h2 h3
theorem mk_StringS {k : Int} {xs : List ByteArray} {y : List ByteArray × Int} (h : wr? strMarkL strCnL k xs = some y) : MCtr Try.prog 125 (.one (.sl (xs.map sC))) k (.one (.sl (y.1.map sC))) y.2 := by
  obtain ⟨h1, h2, h3, h4⟩ := wr_spec h
  rw [h1, h2, ← fl_string, ← fl_string]
  exact mark_sl (by unfold I64; omega) (by kernel_rfl) fun w v F a b e => markStringS_run w v xs F k a b e h3 h4
theorem hd_StringS {k z : Int} {xs ys : List ByteArray} (h : hd? k (strCnL xs) = some z) (hy : ys = strMarkL xs k) : Ctr Try.prog 157 [.one (.sl (ys.map sC)), .one (.int .i64 k)] true [.one (.int .i64 z)] := by
  obtain ⟨h1, h2, h3⟩ := hd_spec h
  rw [h1, hy, ← fl_string]
  exact held_sl (by unfold I64; omega) (by kernel_rfl) fun w v F a => heldStringS_run w v xs F k a h2 h3
theorem mk_IntS {k : Int} {xs : List Int} {y : List Int × Int} (h : wr? intMarkL intCnL k xs = some y) : MCtr Try.prog 34 (.one (.sl (xs.map iC))) k (.one (.sl (y.1.map iC))) y.2 := by
  obtain ⟨h1, h2, h3, h4⟩ := wr_spec h
  rw [h1, h2, ← fl_int, ← fl_int]
  exact mark_sl (by unfold I64; omega) (by kernel_rfl) fun w v F a b e => markIntS_run w v xs F k a b e h3 h4
theorem hd_IntS {k z : Int} {xs ys : List Int} (h : hd? k (intCnL xs) = some z) (hy : ys = intMarkL xs k) : Ctr Try.prog 35 [.one (.sl (ys.map iC)), .one (.int .i64 k)] true [.one (.int .i64 z)] := by
  obtain ⟨h1, h2, h3⟩ := hd_spec h
  rw [h1, hy, ← fl_int]
  exact held_sl (by unfold I64; omega) (by kernel_rfl) fun w v F a => heldIntS_run w v xs F k a h2 h3
theorem TOrigin.fl_d (x : TOrigin) : fl x.d = x.c := by
  simp only [TOrigin.d, fl, flL, TOrigin.c_eq, List.cons_append, List.nil_append, List.append_nil]
theorem TOrigin.fl_ds (xs : List TOrigin) : flE (xs.map TOrigin.d) = xs.map TOrigin.c := by rw [flE_map]; exact List.map_congr_left fun x _ => x.fl_d
theorem mk_OriginS {k : Int} {xs : List TOrigin} {y : List TOrigin × Int} (h : wr? TOrigin.markL TOrigin.cnL k xs = some y) : MCtr Try.prog 29 (.one (.sl (xs.map TOrigin.c))) k (.one (.sl (y.1.map TOrigin.c))) y.2 := by
  obtain ⟨h1, h2, h3, h4⟩ := wr_spec h
  rw [h1, h2, ← TOrigin.fl_ds, ← TOrigin.fl_ds]
  exact mark_sl (by unfold I64; omega) (by kernel_rfl) fun w v F a b e => markOriginS_run w v xs F k a b e h3 h4
theorem hd_OriginS {k z : Int} {xs ys : List TOrigin} (h : hd? k (TOrigin.cnL xs) = some z) (hy : ys = TOrigin.markL xs k) : Ctr Try.prog 30 [.one (.sl (ys.map TOrigin.c)), .one (.int .i64 k)] true [.one (.int .i64 z)] := by
  obtain ⟨h1, h2, h3⟩ := hd_spec h
  rw [h1, hy, ← TOrigin.fl_ds]
  exact held_sl (by unfold I64; omega) (by kernel_rfl) fun w v F a => heldOriginS_run w v xs F k a h2 h3
theorem TRow.fl_d (x : TRow) : fl x.d = x.c := by
  simp only [TRow.d, fl, flL, TRow.c_eq, fl_int, TOrigin.fl_ds, List.cons_append, List.nil_append, List.append_nil]
theorem TRow.fl_ds (xs : List TRow) : flE (xs.map TRow.d) = xs.map TRow.c := by rw [flE_map]; exact List.map_congr_left fun x _ => x.fl_d
theorem mk_RowS {k : Int} {xs : List TRow} {y : List TRow × Int} (h : wr? TRow.markL TRow.cnL k xs = some y) : MCtr Try.prog 126 (.one (.sl (xs.map TRow.c))) k (.one (.sl (y.1.map TRow.c))) y.2 := by
  obtain ⟨h1, h2, h3, h4⟩ := wr_spec h
  rw [h1, h2, ← TRow.fl_ds, ← TRow.fl_ds]
  exact mark_sl (by unfold I64; omega) (by kernel_rfl) fun w v F a b e => markRowS_run w v xs F k a b e h3 h4
theorem hd_RowS {k z : Int} {xs ys : List TRow} (h : hd? k (TRow.cnL xs) = some z) (hy : ys = TRow.markL xs k) : Ctr Try.prog 158 [.one (.sl (ys.map TRow.c)), .one (.int .i64 k)] true [.one (.int .i64 z)] := by
  obtain ⟨h1, h2, h3⟩ := hd_spec h
  rw [h1, hy, ← TRow.fl_ds]
  exact held_sl (by unfold I64; omega) (by kernel_rfl) fun w v F a => heldRowS_run w v xs F k a h2 h3
theorem TValue.indM {p : TValue → Prop} (h : ∀ x, (∀ y ∈ x.list, p y) → p x) : ∀ x, p x
  | ⟨kind, n, step, text, list, columns, rows⟩ => h _ fun y hy => TValue.indM h y
termination_by x => SizeOf.sizeOf x
decreasing_by
  have := List.sizeOf_lt_of_mem hy
  simp at this ⊢; omega
theorem TValue.fl_d (x : TValue) : fl x.d = x.c := by
  refine TValue.indM (p := fun x => fl x.d = x.c) (fun x ih => ?_) x
  have e : flE (x.list.map TValue.d) = x.list.map TValue.c := by rw [flE_map]; exact List.map_congr_left ih
  simp only [TValue.d_eq, fl, flL, TValue.c_eq, e, fl_string, TRow.fl_ds, List.cons_append, List.nil_append, List.append_nil]
theorem TValue.fl_ds (xs : List TValue) : flE (xs.map TValue.d) = xs.map TValue.c := by rw [flE_map]; exact List.map_congr_left fun x _ => x.fl_d
theorem mk_ValueS {k : Int} {xs : List TValue} {y : List TValue × Int} (h : wr? TValue.markL TValue.cnL k xs = some y) : MCtr Try.prog 85 (.one (.sl (xs.map TValue.c))) k (.one (.sl (y.1.map TValue.c))) y.2 := by
  obtain ⟨h1, h2, h3, h4⟩ := wr_spec h
  rw [h1, h2, ← TValue.fl_ds, ← TValue.fl_ds]
  exact mark_sl (by unfold I64; omega) (by kernel_rfl) fun w v F a b e => markValueS_run w v xs F k a b e h3 h4
theorem hd_ValueS {k z : Int} {xs ys : List TValue} (h : hd? k (TValue.cnL xs) = some z) (hy : ys = TValue.markL xs k) : Ctr Try.prog 156 [.one (.sl (ys.map TValue.c)), .one (.int .i64 k)] true [.one (.int .i64 z)] := by
  obtain ⟨h1, h2, h3⟩ := hd_spec h
  rw [h1, hy, ← TValue.fl_ds]
  exact held_sl (by unfold I64; omega) (by kernel_rfl) fun w v F a => heldValueS_run w v xs F k a h2 h3
theorem mk_Value {k : Int} {x : TValue} {y : TValue × Int} (h : wr? TValue.markV TValue.cnV k x = some y) : MCtr Try.prog 61 (.agg x.c) k (.agg y.1.c) y.2 := by
  obtain ⟨h1, h2, h3, h4⟩ := wr_spec h
  rw [h1, h2, ← TValue.fl_d, ← TValue.fl_d]
  exact mark_agg (by unfold I64; omega) (by kernel_rfl) fun w v F a b e => markValue_run w x v F k a b e h3 h4
theorem TRead.fl_d (x : TRead) : fl x.d = x.c := by
  simp only [TRead.d, fl, flL, TRead.c_eq, TValue.fl_d, TValue.c_eq, List.cons_append, List.nil_append, List.append_nil]
theorem TRead.fl_ds (xs : List TRead) : flE (xs.map TRead.d) = xs.map TRead.c := by rw [flE_map]; exact List.map_congr_left fun x _ => x.fl_d
theorem mk_ReadS {k : Int} {xs : List TRead} {y : List TRead × Int} (h : wr? TRead.markL TRead.cnL k xs = some y) : MCtr Try.prog 143 (.one (.sl (xs.map TRead.c))) k (.one (.sl (y.1.map TRead.c))) y.2 := by
  obtain ⟨h1, h2, h3, h4⟩ := wr_spec h
  rw [h1, h2, ← TRead.fl_ds, ← TRead.fl_ds]
  exact mark_sl (by unfold I64; omega) (by kernel_rfl) fun w v F a b e => markReadS_run w v xs F k a b e h3 h4
theorem hd_ReadS {k z : Int} {xs ys : List TRead} (h : hd? k (TRead.cnL xs) = some z) (hy : ys = TRead.markL xs k) : Ctr Try.prog 155 [.one (.sl (ys.map TRead.c)), .one (.int .i64 k)] true [.one (.int .i64 z)] := by
  obtain ⟨h1, h2, h3⟩ := hd_spec h
  rw [h1, hy, ← TRead.fl_ds]
  exact held_sl (by unfold I64; omega) (by kernel_rfl) fun w v F a => heldReadS_run w v xs F k a h2 h3
theorem TTape.fl_d (x : TTape) : fl x.d = x.c := by
  simp only [TTape.d, fl, flL, TTape.c_eq, TRead.fl_ds, List.cons_append, List.nil_append, List.append_nil]
theorem TTape.fl_ds (xs : List TTape) : flE (xs.map TTape.d) = xs.map TTape.c := by rw [flE_map]; exact List.map_congr_left fun x _ => x.fl_d
theorem mk_TapeS {k : Int} {xs : List TTape} {y : List TTape × Int} (h : wr? TTape.markL TTape.cnL k xs = some y) : MCtr Try.prog 86 (.one (.sl (xs.map TTape.c))) k (.one (.sl (y.1.map TTape.c))) y.2 := by
  obtain ⟨h1, h2, h3, h4⟩ := wr_spec h
  rw [h1, h2, ← TTape.fl_ds, ← TTape.fl_ds]
  exact mark_sl (by unfold I64; omega) (by kernel_rfl) fun w v F a b e => markTapeS_run w v xs F k a b e h3 h4
theorem hd_TapeS {k z : Int} {xs ys : List TTape} (h : hd? k (TTape.cnL xs) = some z) (hy : ys = TTape.markL xs k) : Ctr Try.prog 108 [.one (.sl (ys.map TTape.c)), .one (.int .i64 k)] true [.one (.int .i64 z)] := by
  obtain ⟨h1, h2, h3⟩ := hd_spec h
  rw [h1, hy, ← TTape.fl_ds]
  exact held_sl (by unfold I64; omega) (by kernel_rfl) fun w v F a => heldTapeS_run w v xs F k a h2 h3
theorem TRun.fl_d (x : TRun) : fl x.d = x.c := by
  simp only [TRun.d, fl, flL, TRun.c_eq, TValue.fl_ds, TTape.fl_ds, List.cons_append, List.nil_append, List.append_nil]
theorem TRun.fl_ds (xs : List TRun) : flE (xs.map TRun.d) = xs.map TRun.c := by rw [flE_map]; exact List.map_congr_left fun x _ => x.fl_d
theorem mk_Run {k : Int} {x : TRun} {y : TRun × Int} (h : wr? TRun.markV TRun.cnV k x = some y) : MCtr Try.prog 28 (.agg x.c) k (.agg y.1.c) y.2 := by
  obtain ⟨h1, h2, h3, h4⟩ := wr_spec h
  rw [h1, h2, ← TRun.fl_d, ← TRun.fl_d]
  exact mark_agg (by unfold I64; omega) (by kernel_rfl) fun w v F a b e => markRun_run w x v F k a b e h3 h4
theorem TLine.fl_d (x : TLine) : fl x.d = x.c := by
  simp only [TLine.d, fl, flL, TLine.c_eq, List.cons_append, List.nil_append, List.append_nil]
theorem TLine.fl_ds (xs : List TLine) : flE (xs.map TLine.d) = xs.map TLine.c := by rw [flE_map]; exact List.map_congr_left fun x _ => x.fl_d
theorem mk_LineS {k : Int} {xs : List TLine} {y : List TLine × Int} (h : wr? TLine.markL TLine.cnL k xs = some y) : MCtr Try.prog 44 (.one (.sl (xs.map TLine.c))) k (.one (.sl (y.1.map TLine.c))) y.2 := by
  obtain ⟨h1, h2, h3, h4⟩ := wr_spec h
  rw [h1, h2, ← TLine.fl_ds, ← TLine.fl_ds]
  exact mark_sl (by unfold I64; omega) (by kernel_rfl) fun w v F a b e => markLineS_run w v xs F k a b e h3 h4
theorem hd_LineS {k z : Int} {xs ys : List TLine} (h : hd? k (TLine.cnL xs) = some z) (hy : ys = TLine.markL xs k) : Ctr Try.prog 46 [.one (.sl (ys.map TLine.c)), .one (.int .i64 k)] true [.one (.int .i64 z)] := by
  obtain ⟨h1, h2, h3⟩ := hd_spec h
  rw [h1, hy, ← TLine.fl_ds]
  exact held_sl (by unfold I64; omega) (by kernel_rfl) fun w v F a => heldLineS_run w v xs F k a h2 h3
theorem TChange.fl_d (x : TChange) : fl x.d = x.c := by
  simp only [TChange.d, fl, flL, TChange.c_eq, TLine.fl_d, TLine.c_eq, List.cons_append, List.nil_append, List.append_nil]
theorem TChange.fl_ds (xs : List TChange) : flE (xs.map TChange.d) = xs.map TChange.c := by rw [flE_map]; exact List.map_congr_left fun x _ => x.fl_d
theorem mk_ChangeS {k : Int} {xs : List TChange} {y : List TChange × Int} (h : wr? TChange.markL TChange.cnL k xs = some y) : MCtr Try.prog 96 (.one (.sl (xs.map TChange.c))) k (.one (.sl (y.1.map TChange.c))) y.2 := by
  obtain ⟨h1, h2, h3, h4⟩ := wr_spec h
  rw [h1, h2, ← TChange.fl_ds, ← TChange.fl_ds]
  exact mark_sl (by unfold I64; omega) (by kernel_rfl) fun w v F a b e => markChangeS_run w v xs F k a b e h3 h4
theorem TDiff.fl_d (x : TDiff) : fl x.d = x.c := by
  simp only [TDiff.d, fl, flL, TDiff.c_eq, TChange.fl_ds, List.cons_append, List.nil_append, List.append_nil]
theorem TDiff.fl_ds (xs : List TDiff) : flE (xs.map TDiff.d) = xs.map TDiff.c := by rw [flE_map]; exact List.map_congr_left fun x _ => x.fl_d
theorem mk_Diff {k : Int} {x : TDiff} {y : TDiff × Int} (h : wr? TDiff.markV TDiff.cnV k x = some y) : MCtr Try.prog 45 (.agg x.c) k (.agg y.1.c) y.2 := by
  obtain ⟨h1, h2, h3, h4⟩ := wr_spec h
  rw [h1, h2, ← TDiff.fl_d, ← TDiff.fl_d]
  exact mark_agg (by unfold I64; omega) (by kernel_rfl) fun w v F a b e => markDiff_run w x v F k a b e h3 h4
theorem TFile.fl_d (x : TFile) : fl x.d = x.c := by
  simp only [TFile.d, fl, flL, TFile.c_eq, List.cons_append, List.nil_append, List.append_nil]
theorem TFile.fl_ds (xs : List TFile) : flE (xs.map TFile.d) = xs.map TFile.c := by rw [flE_map]; exact List.map_congr_left fun x _ => x.fl_d
theorem mk_FileS {k : Int} {xs : List TFile} {y : List TFile × Int} (h : wr? TFile.markL TFile.cnL k xs = some y) : MCtr Try.prog 104 (.one (.sl (xs.map TFile.c))) k (.one (.sl (y.1.map TFile.c))) y.2 := by
  obtain ⟨h1, h2, h3, h4⟩ := wr_spec h
  rw [h1, h2, ← TFile.fl_ds, ← TFile.fl_ds]
  exact mark_sl (by unfold I64; omega) (by kernel_rfl) fun w v F a b e => markFileS_run w v xs F k a b e h3 h4
theorem hd_FileS {k z : Int} {xs ys : List TFile} (h : hd? k (TFile.cnL xs) = some z) (hy : ys = TFile.markL xs k) : Ctr Try.prog 154 [.one (.sl (ys.map TFile.c)), .one (.int .i64 k)] true [.one (.int .i64 z)] := by
  obtain ⟨h1, h2, h3⟩ := hd_spec h
  rw [h1, hy, ← TFile.fl_ds]
  exact held_sl (by unfold I64; omega) (by kernel_rfl) fun w v F a => heldFileS_run w v xs F k a h2 h3
theorem TWorld.fl_d (x : TWorld) : fl x.d = x.c := by
  simp only [TWorld.d, fl, flL, TWorld.c_eq, TFile.fl_ds, List.cons_append, List.nil_append, List.append_nil]
theorem TWorld.fl_ds (xs : List TWorld) : flE (xs.map TWorld.d) = xs.map TWorld.c := by rw [flE_map]; exact List.map_congr_left fun x _ => x.fl_d
theorem mk_World {k : Int} {x : TWorld} {y : TWorld × Int} (h : wr? TWorld.markV TWorld.cnV k x = some y) : MCtr Try.prog 52 (.agg x.c) k (.agg y.1.c) y.2 := by
  obtain ⟨h1, h2, h3, h4⟩ := wr_spec h
  rw [h1, h2, ← TWorld.fl_d, ← TWorld.fl_d]
  exact mark_agg (by unfold I64; omega) (by kernel_rfl) fun w v F a b e => markWorld_run w x v F k a b e h3 h4
theorem hd_World {k z : Int} {x y : TWorld} (h : hd? k x.cnV = some z) (hy : y = x.markV k) : Ctr Try.prog 107 [.agg y.c, .one (.int .i64 k)] true [.one (.int .i64 z)] := by
  obtain ⟨h1, h2, h3⟩ := hd_spec h
  rw [h1, hy, ← TWorld.fl_d]
  exact held_agg (by unfold I64; omega) (by kernel_rfl) fun w v F a => heldWorld_run w x v F k a h2 h3
theorem TEntry.fl_d (x : TEntry) : fl x.d = x.c := by
  simp only [TEntry.d, fl, flL, TEntry.c_eq, fl_int, TValue.fl_d, TValue.c_eq, List.cons_append, List.nil_append, List.append_nil]
theorem TEntry.fl_ds (xs : List TEntry) : flE (xs.map TEntry.d) = xs.map TEntry.c := by rw [flE_map]; exact List.map_congr_left fun x _ => x.fl_d
theorem mk_EntryS {k : Int} {xs : List TEntry} {y : List TEntry × Int} (h : wr? TEntry.markL TEntry.cnL k xs = some y) : MCtr Try.prog 105 (.one (.sl (xs.map TEntry.c))) k (.one (.sl (y.1.map TEntry.c))) y.2 := by
  obtain ⟨h1, h2, h3, h4⟩ := wr_spec h
  rw [h1, h2, ← TEntry.fl_ds, ← TEntry.fl_ds]
  exact mark_sl (by unfold I64; omega) (by kernel_rfl) fun w v F a b e => markEntryS_run w v xs F k a b e h3 h4
theorem hd_EntryS {k z : Int} {xs ys : List TEntry} (h : hd? k (TEntry.cnL xs) = some z) (hy : ys = TEntry.markL xs k) : Ctr Try.prog 109 [.one (.sl (ys.map TEntry.c)), .one (.int .i64 k)] true [.one (.int .i64 z)] := by
  obtain ⟨h1, h2, h3⟩ := hd_spec h
  rw [h1, hy, ← TEntry.fl_ds]
  exact held_sl (by unfold I64; omega) (by kernel_rfl) fun w v F a => heldEntryS_run w v xs F k a h2 h3
theorem TEngine.fl_d (x : TEngine) : fl x.d = x.c := by
  simp only [TEngine.d, fl, flL, TEngine.c_eq, TNotebook.fl_d, TNotebook.c_eq, TWorld.fl_d, TWorld.c_eq, TTape.fl_ds, TEntry.fl_ds, List.cons_append, List.nil_append, List.append_nil]
theorem TEngine.fl_ds (xs : List TEngine) : flE (xs.map TEngine.d) = xs.map TEngine.c := by rw [flE_map]; exact List.map_congr_left fun x _ => x.fl_d
theorem mk_Engine {k : Int} {x : TEngine} {y : TEngine × Int} (h : wr? TEngine.markV TEngine.cnV k x = some y) : MCtr Try.prog 53 (.agg x.c) k (.agg y.1.c) y.2 := by
  obtain ⟨h1, h2, h3, h4⟩ := wr_spec h
  rw [h1, h2, ← TEngine.fl_d, ← TEngine.fl_d]
  exact mark_agg (by unfold I64; omega) (by kernel_rfl) fun w v F a b e => markEngine_run w x v F k a b e h3 h4
theorem hd_Engine {k z : Int} {x y : TEngine} (h : hd? k x.cnV = some z) (hy : y = x.markV k) : Ctr Try.prog 54 [.agg y.c, .one (.int .i64 k)] true [.one (.int .i64 z)] := by
  obtain ⟨h1, h2, h3⟩ := hd_spec h
  rw [h1, hy, ← TEngine.fl_d]
  exact held_agg (by unfold I64; omega) (by kernel_rfl) fun w v F a => heldEngine_run w x v F k a h2 h3
theorem TMark.fl_d (x : TMark) : fl x.d = x.c := by
  simp only [TMark.d, fl, flL, TMark.c_eq, List.cons_append, List.nil_append, List.append_nil]
theorem TMark.fl_ds (xs : List TMark) : flE (xs.map TMark.d) = xs.map TMark.c := by rw [flE_map]; exact List.map_congr_left fun x _ => x.fl_d
theorem mk_MarkS {k : Int} {xs : List TMark} {y : List TMark × Int} (h : wr? TMark.markL TMark.cnL k xs = some y) : MCtr Try.prog 127 (.one (.sl (xs.map TMark.c))) k (.one (.sl (y.1.map TMark.c))) y.2 := by
  obtain ⟨h1, h2, h3, h4⟩ := wr_spec h
  rw [h1, h2, ← TMark.fl_ds, ← TMark.fl_ds]
  exact mark_sl (by unfold I64; omega) (by kernel_rfl) fun w v F a b e => markMarkS_run w v xs F k a b e h3 h4
theorem hd_MarkS {k z : Int} {xs ys : List TMark} (h : hd? k (TMark.cnL xs) = some z) (hy : ys = TMark.markL xs k) : Ctr Try.prog 128 [.one (.sl (ys.map TMark.c)), .one (.int .i64 k)] true [.one (.int .i64 z)] := by
  obtain ⟨h1, h2, h3⟩ := hd_spec h
  rw [h1, hy, ← TMark.fl_ds]
  exact held_sl (by unfold I64; omega) (by kernel_rfl) fun w v F a => heldMarkS_run w v xs F k a h2 h3
theorem TScene.fl_d (x : TScene) : fl x.d = x.c := by
  simp only [TScene.d, fl, flL, TScene.c_eq, TMark.fl_ds, List.cons_append, List.nil_append, List.append_nil]
theorem TScene.fl_ds (xs : List TScene) : flE (xs.map TScene.d) = xs.map TScene.c := by rw [flE_map]; exact List.map_congr_left fun x _ => x.fl_d
theorem mk_Scene {k : Int} {x : TScene} {y : TScene × Int} (h : wr? TScene.markV TScene.cnV k x = some y) : MCtr Try.prog 62 (.agg x.c) k (.agg y.1.c) y.2 := by
  obtain ⟨h1, h2, h3, h4⟩ := wr_spec h
  rw [h1, h2, ← TScene.fl_d, ← TScene.fl_d]
  exact mark_agg (by unfold I64; omega) (by kernel_rfl) fun w v F a b e => markScene_run w x v F k a b e h3 h4
theorem hd_Scene {k z : Int} {x y : TScene} (h : hd? k x.cnV = some z) (hy : y = x.markV k) : Ctr Try.prog 63 [.agg y.c, .one (.int .i64 k)] true [.one (.int .i64 z)] := by
  obtain ⟨h1, h2, h3⟩ := hd_spec h
  rw [h1, hy, ← TScene.fl_d]
  exact held_agg (by unfold I64; omega) (by kernel_rfl) fun w v F a => heldScene_run w x v F k a h2 h3
end Go.Proofs.Ytmiboaogfjgkjaa
