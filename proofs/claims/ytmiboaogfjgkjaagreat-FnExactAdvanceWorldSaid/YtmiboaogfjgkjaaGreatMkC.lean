/- The laws' marks as contracts. Written by a program of mine. -/
import Derived.Test.YtmiboaogfjgkjaaGreatPkC
import Derived.Test.YtmiboaogfjgkjaaGreatPkT0
import Derived.Test.YtmiboaogfjgkjaaGreatMkB
set_option linter.unusedSimpArgs false
set_option linter.unusedVariables false
namespace Go.Proofs.YtmiboaogfjgkjaaGreat
open Go.RowKit Am

theorem fl_int (xs : List Int) : flE (xs.map D.int) = xs.map iC := by rw [flE_map]; rfl
theorem fl_string (xs : List ByteArray) : flE (xs.map D.str) = xs.map sC := by rw [flE_map]; rfl
theorem TCell.fl_d (x : TCell) : fl x.d = x.c := by
  simp only [TCell.d, fl, flL, TCell.c_eq, List.cons_append, List.nil_append, List.append_nil]
theorem TCell.fl_ds (xs : List TCell) : flE (xs.map TCell.d) = xs.map TCell.c := by rw [flE_map]; exact List.map_congr_left fun x _ => x.fl_d
theorem mk_CellS {k : Int} {xs : List TCell} {y : List TCell × Int} (h : wr? TCell.markL TCell.cnL k xs = some y) : MCtr Tryz.prog 64 (.one (.sl (xs.map TCell.c))) k (.one (.sl (y.1.map TCell.c))) y.2 := by
  obtain ⟨h1, h2, h3, h4⟩ := wr_spec h
  rw [h1, h2, ← TCell.fl_ds, ← TCell.fl_ds]
  exact mark_sl (by unfold I64; omega) (by kernel_rfl) fun w v F a b e => markCellS_run w v xs F k a b e h3 h4
theorem hd_CellS {k z : Int} {xs ys : List TCell} (h : hd? k (TCell.cnL xs) = some z) (hy : ys = TCell.markL xs k) : Ctr Tryz.prog 71 [.one (.sl (ys.map TCell.c)), .one (.int .i64 k)] true [.one (.int .i64 z)] := by
  obtain ⟨h1, h2, h3⟩ := hd_spec h
  rw [h1, hy, ← TCell.fl_ds]
  exact held_sl (by unfold I64; omega) (by kernel_rfl) fun w v F a => heldCellS_run w v xs F k a h2 h3
theorem TNotebook.fl_d (x : TNotebook) : fl x.d = x.c := by
  simp only [TNotebook.d, fl, flL, TNotebook.c_eq, TCell.fl_ds, List.cons_append, List.nil_append, List.append_nil]
theorem TNotebook.fl_ds (xs : List TNotebook) : flE (xs.map TNotebook.d) = xs.map TNotebook.c := by rw [flE_map]; exact List.map_congr_left fun x _ => x.fl_d
theorem mk_Notebook {k : Int} {x : TNotebook} {y : TNotebook × Int} (h : wr? TNotebook.markV TNotebook.cnV k x = some y) : MCtr Tryz.prog 33 (.agg x.c) k (.agg y.1.c) y.2 := by
  obtain ⟨h1, h2, h3, h4⟩ := wr_spec h
  rw [h1, h2, ← TNotebook.fl_d, ← TNotebook.fl_d]
  exact mark_agg (by unfold I64; omega) (by kernel_rfl) fun w v F a b e => markNotebook_run w x v F k a b e h3 h4
theorem hd_Notebook {k z : Int} {x y : TNotebook} (h : hd? k x.cnV = some z) (hy : y = x.markV k) : Ctr Tryz.prog 37 [.agg y.c, .one (.int .i64 k)] true [.one (.int .i64 z)] := by
  obtain ⟨h1, h2, h3⟩ := hd_spec h
  rw [h1, hy, ← TNotebook.fl_d]
  exact held_agg (by unfold I64; omega) (by kernel_rfl) fun w v F a => heldNotebook_run w x v F k a h2 h3
theorem TFile.fl_d (x : TFile) : fl x.d = x.c := by
  simp only [TFile.d, fl, flL, TFile.c_eq, List.cons_append, List.nil_append, List.append_nil]
theorem TFile.fl_ds (xs : List TFile) : flE (xs.map TFile.d) = xs.map TFile.c := by rw [flE_map]; exact List.map_congr_left fun x _ => x.fl_d
theorem mk_FileS {k : Int} {xs : List TFile} {y : List TFile × Int} (h : wr? TFile.markL TFile.cnL k xs = some y) : MCtr Tryz.prog 36 (.one (.sl (xs.map TFile.c))) k (.one (.sl (y.1.map TFile.c))) y.2 := by
  obtain ⟨h1, h2, h3, h4⟩ := wr_spec h
  rw [h1, h2, ← TFile.fl_ds, ← TFile.fl_ds]
  exact mark_sl (by unfold I64; omega) (by kernel_rfl) fun w v F a b e => markFileS_run w v xs F k a b e h3 h4
theorem hd_FileS {k z : Int} {xs ys : List TFile} (h : hd? k (TFile.cnL xs) = some z) (hy : ys = TFile.markL xs k) : Ctr Tryz.prog 72 [.one (.sl (ys.map TFile.c)), .one (.int .i64 k)] true [.one (.int .i64 z)] := by
  obtain ⟨h1, h2, h3⟩ := hd_spec h
  rw [h1, hy, ← TFile.fl_ds]
  exact held_sl (by unfold I64; omega) (by kernel_rfl) fun w v F a => heldFileS_run w v xs F k a h2 h3
theorem TWorld.fl_d (x : TWorld) : fl x.d = x.c := by
  simp only [TWorld.d, fl, flL, TWorld.c_eq, TFile.fl_ds, List.cons_append, List.nil_append, List.append_nil]
theorem TWorld.fl_ds (xs : List TWorld) : flE (xs.map TWorld.d) = xs.map TWorld.c := by rw [flE_map]; exact List.map_congr_left fun x _ => x.fl_d
theorem mk_World {k : Int} {x : TWorld} {y : TWorld × Int} (h : wr? TWorld.markV TWorld.cnV k x = some y) : MCtr Tryz.prog 13 (.agg x.c) k (.agg y.1.c) y.2 := by
  obtain ⟨h1, h2, h3, h4⟩ := wr_spec h
  rw [h1, h2, ← TWorld.fl_d, ← TWorld.fl_d]
  exact mark_agg (by unfold I64; omega) (by kernel_rfl) fun w v F a b e => markWorld_run w x v F k a b e h3 h4
theorem hd_World {k z : Int} {x y : TWorld} (h : hd? k x.cnV = some z) (hy : y = x.markV k) : Ctr Tryz.prog 38 [.agg y.c, .one (.int .i64 k)] true [.one (.int .i64 z)] := by
  obtain ⟨h1, h2, h3⟩ := hd_spec h
  rw [h1, hy, ← TWorld.fl_d]
  exact held_agg (by unfold I64; omega) (by kernel_rfl) fun w v F a => heldWorld_run w x v F k a h2 h3
theorem mk_StringS {k : Int} {xs : List ByteArray} {y : List ByteArray × Int} (h : wr? strMarkL strCnL k xs = some y) : MCtr Tryz.prog 69 (.one (.sl (xs.map sC))) k (.one (.sl (y.1.map sC))) y.2 := by
  obtain ⟨h1, h2, h3, h4⟩ := wr_spec h
  rw [h1, h2, ← fl_string, ← fl_string]
  exact mark_sl (by unfold I64; omega) (by kernel_rfl) fun w v F a b e => markStringS_run w v xs F k a b e h3 h4
theorem hd_StringS {k z : Int} {xs ys : List ByteArray} (h : hd? k (strCnL xs) = some z) (hy : ys = strMarkL xs k) : Ctr Tryz.prog 76 [.one (.sl (ys.map sC)), .one (.int .i64 k)] true [.one (.int .i64 z)] := by
  obtain ⟨h1, h2, h3⟩ := hd_spec h
  rw [h1, hy, ← fl_string]
  exact held_sl (by unfold I64; omega) (by kernel_rfl) fun w v F a => heldStringS_run w v xs F k a h2 h3
theorem mk_IntS {k : Int} {xs : List Int} {y : List Int × Int} (h : wr? intMarkL intCnL k xs = some y) : MCtr Tryz.prog 66 (.one (.sl (xs.map iC))) k (.one (.sl (y.1.map iC))) y.2 := by
  obtain ⟨h1, h2, h3, h4⟩ := wr_spec h
  rw [h1, h2, ← fl_int, ← fl_int]
  exact mark_sl (by unfold I64; omega) (by kernel_rfl) fun w v F a b e => markIntS_run w v xs F k a b e h3 h4
theorem hd_IntS {k z : Int} {xs ys : List Int} (h : hd? k (intCnL xs) = some z) (hy : ys = intMarkL xs k) : Ctr Tryz.prog 74 [.one (.sl (ys.map iC)), .one (.int .i64 k)] true [.one (.int .i64 z)] := by
  obtain ⟨h1, h2, h3⟩ := hd_spec h
  rw [h1, hy, ← fl_int]
  exact held_sl (by unfold I64; omega) (by kernel_rfl) fun w v F a => heldIntS_run w v xs F k a h2 h3
theorem TOrigin.fl_d (x : TOrigin) : fl x.d = x.c := by
  simp only [TOrigin.d, fl, flL, TOrigin.c_eq, List.cons_append, List.nil_append, List.append_nil]
theorem TOrigin.fl_ds (xs : List TOrigin) : flE (xs.map TOrigin.d) = xs.map TOrigin.c := by rw [flE_map]; exact List.map_congr_left fun x _ => x.fl_d
theorem mk_OriginS {k : Int} {xs : List TOrigin} {y : List TOrigin × Int} (h : wr? TOrigin.markL TOrigin.cnL k xs = some y) : MCtr Tryz.prog 99 (.one (.sl (xs.map TOrigin.c))) k (.one (.sl (y.1.map TOrigin.c))) y.2 := by
  obtain ⟨h1, h2, h3, h4⟩ := wr_spec h
  rw [h1, h2, ← TOrigin.fl_ds, ← TOrigin.fl_ds]
  exact mark_sl (by unfold I64; omega) (by kernel_rfl) fun w v F a b e => markOriginS_run w v xs F k a b e h3 h4
theorem hd_OriginS {k z : Int} {xs ys : List TOrigin} (h : hd? k (TOrigin.cnL xs) = some z) (hy : ys = TOrigin.markL xs k) : Ctr Tryz.prog 100 [.one (.sl (ys.map TOrigin.c)), .one (.int .i64 k)] true [.one (.int .i64 z)] := by
  obtain ⟨h1, h2, h3⟩ := hd_spec h
  rw [h1, hy, ← TOrigin.fl_ds]
  exact held_sl (by unfold I64; omega) (by kernel_rfl) fun w v F a => heldOriginS_run w v xs F k a h2 h3
theorem TRow.fl_d (x : TRow) : fl x.d = x.c := by
  simp only [TRow.d, fl, flL, TRow.c_eq, fl_int, TOrigin.fl_ds, List.cons_append, List.nil_append, List.append_nil]
theorem TRow.fl_ds (xs : List TRow) : flE (xs.map TRow.d) = xs.map TRow.c := by rw [flE_map]; exact List.map_congr_left fun x _ => x.fl_d
theorem mk_RowS {k : Int} {xs : List TRow} {y : List TRow × Int} (h : wr? TRow.markL TRow.cnL k xs = some y) : MCtr Tryz.prog 70 (.one (.sl (xs.map TRow.c))) k (.one (.sl (y.1.map TRow.c))) y.2 := by
  obtain ⟨h1, h2, h3, h4⟩ := wr_spec h
  rw [h1, h2, ← TRow.fl_ds, ← TRow.fl_ds]
  exact mark_sl (by unfold I64; omega) (by kernel_rfl) fun w v F a b e => markRowS_run w v xs F k a b e h3 h4
theorem hd_RowS {k z : Int} {xs ys : List TRow} (h : hd? k (TRow.cnL xs) = some z) (hy : ys = TRow.markL xs k) : Ctr Tryz.prog 77 [.one (.sl (ys.map TRow.c)), .one (.int .i64 k)] true [.one (.int .i64 z)] := by
  obtain ⟨h1, h2, h3⟩ := hd_spec h
  rw [h1, hy, ← TRow.fl_ds]
  exact held_sl (by unfold I64; omega) (by kernel_rfl) fun w v F a => heldRowS_run w v xs F k a h2 h3
theorem TValue.indM {p : TValue → Prop} (h : ∀ x, (∀ y ∈ x.list, p y) → p x) : ∀ x, p x
  | ⟨kind, n, step, text, list, columns, rows⟩ => h _ fun y hy => TValue.indM h y
termination_by x => SizeOf.sizeOf x
decreasing_by
  have := List.sizeOf_lt_of_mem hy
  simp at this ⊢; omega
theorem TValue.fl_d (x : TValue) : fl x.d = x.c := by
  refine TValue.indM (p := fun x => fl x.d = x.c) (fun x ih => ?_) x
  have e : flE (x.list.map TValue.d) = x.list.map TValue.c := by rw [flE_map]; exact List.map_congr_left ih
  simp only [TValue.d_eq, fl, flL, TValue.c_eq, e, fl_string, TRow.fl_ds, List.cons_append, List.nil_append, List.append_nil]
theorem TValue.fl_ds (xs : List TValue) : flE (xs.map TValue.d) = xs.map TValue.c := by rw [flE_map]; exact List.map_congr_left fun x _ => x.fl_d
theorem mk_ValueS {k : Int} {xs : List TValue} {y : List TValue × Int} (h : wr? TValue.markL TValue.cnL k xs = some y) : MCtr Tryz.prog 68 (.one (.sl (xs.map TValue.c))) k (.one (.sl (y.1.map TValue.c))) y.2 := by
  obtain ⟨h1, h2, h3, h4⟩ := wr_spec h
  rw [h1, h2, ← TValue.fl_ds, ← TValue.fl_ds]
  exact mark_sl (by unfold I64; omega) (by kernel_rfl) fun w v F a b e => markValueS_run w v xs F k a b e h3 h4
theorem hd_ValueS {k z : Int} {xs ys : List TValue} (h : hd? k (TValue.cnL xs) = some z) (hy : ys = TValue.markL xs k) : Ctr Tryz.prog 75 [.one (.sl (ys.map TValue.c)), .one (.int .i64 k)] true [.one (.int .i64 z)] := by
  obtain ⟨h1, h2, h3⟩ := hd_spec h
  rw [h1, hy, ← TValue.fl_ds]
  exact held_sl (by unfold I64; omega) (by kernel_rfl) fun w v F a => heldValueS_run w v xs F k a h2 h3
theorem TRead.fl_d (x : TRead) : fl x.d = x.c := by
  simp only [TRead.d, fl, flL, TRead.c_eq, TValue.fl_d, TValue.c_eq, List.cons_append, List.nil_append, List.append_nil]
theorem TRead.fl_ds (xs : List TRead) : flE (xs.map TRead.d) = xs.map TRead.c := by rw [flE_map]; exact List.map_congr_left fun x _ => x.fl_d
theorem mk_ReadS {k : Int} {xs : List TRead} {y : List TRead × Int} (h : wr? TRead.markL TRead.cnL k xs = some y) : MCtr Tryz.prog 65 (.one (.sl (xs.map TRead.c))) k (.one (.sl (y.1.map TRead.c))) y.2 := by
  obtain ⟨h1, h2, h3, h4⟩ := wr_spec h
  rw [h1, h2, ← TRead.fl_ds, ← TRead.fl_ds]
  exact mark_sl (by unfold I64; omega) (by kernel_rfl) fun w v F a b e => markReadS_run w v xs F k a b e h3 h4
theorem hd_ReadS {k z : Int} {xs ys : List TRead} (h : hd? k (TRead.cnL xs) = some z) (hy : ys = TRead.markL xs k) : Ctr Tryz.prog 73 [.one (.sl (ys.map TRead.c)), .one (.int .i64 k)] true [.one (.int .i64 z)] := by
  obtain ⟨h1, h2, h3⟩ := hd_spec h
  rw [h1, hy, ← TRead.fl_ds]
  exact held_sl (by unfold I64; omega) (by kernel_rfl) fun w v F a => heldReadS_run w v xs F k a h2 h3
theorem TTape.fl_d (x : TTape) : fl x.d = x.c := by
  simp only [TTape.d, fl, flL, TTape.c_eq, TRead.fl_ds, List.cons_append, List.nil_append, List.append_nil]
theorem TTape.fl_ds (xs : List TTape) : flE (xs.map TTape.d) = xs.map TTape.c := by rw [flE_map]; exact List.map_congr_left fun x _ => x.fl_d
theorem mk_TapeS {k : Int} {xs : List TTape} {y : List TTape × Int} (h : wr? TTape.markL TTape.cnL k xs = some y) : MCtr Tryz.prog 34 (.one (.sl (xs.map TTape.c))) k (.one (.sl (y.1.map TTape.c))) y.2 := by
  obtain ⟨h1, h2, h3, h4⟩ := wr_spec h
  rw [h1, h2, ← TTape.fl_ds, ← TTape.fl_ds]
  exact mark_sl (by unfold I64; omega) (by kernel_rfl) fun w v F a b e => markTapeS_run w v xs F k a b e h3 h4
theorem hd_TapeS {k z : Int} {xs ys : List TTape} (h : hd? k (TTape.cnL xs) = some z) (hy : ys = TTape.markL xs k) : Ctr Tryz.prog 39 [.one (.sl (ys.map TTape.c)), .one (.int .i64 k)] true [.one (.int .i64 z)] := by
  obtain ⟨h1, h2, h3⟩ := hd_spec h
  rw [h1, hy, ← TTape.fl_ds]
  exact held_sl (by unfold I64; omega) (by kernel_rfl) fun w v F a => heldTapeS_run w v xs F k a h2 h3
theorem TEntry.fl_d (x : TEntry) : fl x.d = x.c := by
  simp only [TEntry.d, fl, flL, TEntry.c_eq, fl_int, TValue.fl_d, TValue.c_eq, List.cons_append, List.nil_append, List.append_nil]
theorem TEntry.fl_ds (xs : List TEntry) : flE (xs.map TEntry.d) = xs.map TEntry.c := by rw [flE_map]; exact List.map_congr_left fun x _ => x.fl_d
theorem mk_EntryS {k : Int} {xs : List TEntry} {y : List TEntry × Int} (h : wr? TEntry.markL TEntry.cnL k xs = some y) : MCtr Tryz.prog 35 (.one (.sl (xs.map TEntry.c))) k (.one (.sl (y.1.map TEntry.c))) y.2 := by
  obtain ⟨h1, h2, h3, h4⟩ := wr_spec h
  rw [h1, h2, ← TEntry.fl_ds, ← TEntry.fl_ds]
  exact mark_sl (by unfold I64; omega) (by kernel_rfl) fun w v F a b e => markEntryS_run w v xs F k a b e h3 h4
theorem hd_EntryS {k z : Int} {xs ys : List TEntry} (h : hd? k (TEntry.cnL xs) = some z) (hy : ys = TEntry.markL xs k) : Ctr Tryz.prog 40 [.one (.sl (ys.map TEntry.c)), .one (.int .i64 k)] true [.one (.int .i64 z)] := by
  obtain ⟨h1, h2, h3⟩ := hd_spec h
  rw [h1, hy, ← TEntry.fl_ds]
  exact held_sl (by unfold I64; omega) (by kernel_rfl) fun w v F a => heldEntryS_run w v xs F k a h2 h3
theorem TEngine.fl_d (x : TEngine) : fl x.d = x.c := by
  simp only [TEngine.d, fl, flL, TEngine.c_eq, TNotebook.fl_d, TNotebook.c_eq, TWorld.fl_d, TWorld.c_eq, TTape.fl_ds, TEntry.fl_ds, List.cons_append, List.nil_append, List.append_nil]
theorem TEngine.fl_ds (xs : List TEngine) : flE (xs.map TEngine.d) = xs.map TEngine.c := by rw [flE_map]; exact List.map_congr_left fun x _ => x.fl_d
theorem mk_Engine {k : Int} {x : TEngine} {y : TEngine × Int} (h : wr? TEngine.markV TEngine.cnV k x = some y) : MCtr Tryz.prog 12 (.agg x.c) k (.agg y.1.c) y.2 := by
  obtain ⟨h1, h2, h3, h4⟩ := wr_spec h
  rw [h1, h2, ← TEngine.fl_d, ← TEngine.fl_d]
  exact mark_agg (by unfold I64; omega) (by kernel_rfl) fun w v F a b e => markEngine_run w x v F k a b e h3 h4
theorem hd_Engine {k z : Int} {x y : TEngine} (h : hd? k x.cnV = some z) (hy : y = x.markV k) : Ctr Tryz.prog 14 [.agg y.c, .one (.int .i64 k)] true [.one (.int .i64 z)] := by
  obtain ⟨h1, h2, h3⟩ := hd_spec h
  rw [h1, hy, ← TEngine.fl_d]
  exact held_agg (by unfold I64; omega) (by kernel_rfl) fun w v F a => heldEngine_run w x v F k a h2 h3
end Go.Proofs.YtmiboaogfjgkjaaGreat
