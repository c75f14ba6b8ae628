/- The laws' marks as contracts. Written by a program of mine. -/
import Derived.Test.YtbknilpmpjjfpaaGreatPkC
import Derived.Test.YtbknilpmpjjfpaaGreatPkT0
import Derived.Test.YtbknilpmpjjfpaaGreatPkT1
import Derived.Test.YtbknilpmpjjfpaaGreatMkB
set_option linter.unusedSimpArgs false
set_option linter.unusedVariables false
namespace Go.Proofs.YtbknilpmpjjfpaaGreat
open Go.RowKit Am
theorem fl_int (xs : List Int) : flE (xs.map D.int) = xs.map iC := by rw [flE_map]; rfl
theorem fl_string (xs : List ByteArray) : flE (xs.map D.str) = xs.map sC := by rw [flE_map]; rfl
theorem TCell.fl_d (x : TCell) : fl x.d = x.c := by
  simp only [TCell.d, fl, flL, TCell.c_eq, List.cons_append, List.nil_append, List.append_nil]
theorem TCell.fl_ds (xs : List TCell) : flE (xs.map TCell.d) = xs.map TCell.c := by rw [flE_map]; exact List.map_congr_left fun x _ => x.fl_d
theorem TNotebook.fl_d (x : TNotebook) : fl x.d = x.c := by
  simp only [TNotebook.d, fl, flL, TNotebook.c_eq, TCell.fl_ds, List.cons_append, List.nil_append, List.append_nil]
theorem TFile.fl_d (x : TFile) : fl x.d = x.c := by
  simp only [TFile.d, fl, flL, TFile.c_eq, List.cons_append, List.nil_append, List.append_nil]
theorem TFile.fl_ds (xs : List TFile) : flE (xs.map TFile.d) = xs.map TFile.c := by rw [flE_map]; exact List.map_congr_left fun x _ => x.fl_d
theorem TWorld.fl_d (x : TWorld) : fl x.d = x.c := by
  simp only [TWorld.d, fl, flL, TWorld.c_eq, TFile.fl_ds, List.cons_append, List.nil_append, List.append_nil]
theorem mk_IntS {k : Int} {xs : List Int} {y : List Int × Int} (h : wr? intMarkL intCnL k xs = some y) : MCtr Tryz.prog 21 (.one (.sl (xs.map iC))) k (.one (.sl (y.1.map iC))) y.2 := by
  obtain ⟨h1, h2, h3, h4⟩ := wr_spec h
  rw [h1, h2, ← fl_int, ← fl_int]
  exact mark_sl (by unfold I64; omega) (by kernel_rfl) fun w v F a b e => markIntS_run w v xs F k a b e h3 h4
theorem hd_IntS {k z : Int} {xs ys : List Int} (h : hd? k (intCnL xs) = some z) (hy : ys = intMarkL xs k) : Ctr Tryz.prog 22 [.one (.sl (ys.map iC)), .one (.int .i64 k)] true [.one (.int .i64 z)] := by
  obtain ⟨h1, h2, h3⟩ := hd_spec h
  rw [h1, hy, ← fl_int]
  exact held_sl (by unfold I64; omega) (by kernel_rfl) fun w v F a => heldIntS_run w v xs F k a h2 h3
theorem TOrigin.fl_d (x : TOrigin) : fl x.d = x.c := by
  simp only [TOrigin.d, fl, flL, TOrigin.c_eq, List.cons_append, List.nil_append, List.append_nil]
theorem TOrigin.fl_ds (xs : List TOrigin) : flE (xs.map TOrigin.d) = xs.map TOrigin.c := by rw [flE_map]; exact List.map_congr_left fun x _ => x.fl_d
theorem TRow.fl_d (x : TRow) : fl x.d = x.c := by
  simp only [TRow.d, fl, flL, TRow.c_eq, fl_int, TOrigin.fl_ds, List.cons_append, List.nil_append, List.append_nil]
theorem TRow.fl_ds (xs : List TRow) : flE (xs.map TRow.d) = xs.map TRow.c := by rw [flE_map]; exact List.map_congr_left fun x _ => x.fl_d
theorem TValue.indM {p : TValue → Prop} (h : ∀ x, (∀ y ∈ x.list, p y) → p x) : ∀ x, p x
  | ⟨kind, n, step, text, list, columns, rows⟩ => h _ fun y hy => TValue.indM h y
termination_by x => SizeOf.sizeOf x
decreasing_by
  have := List.sizeOf_lt_of_mem hy
  simp at this ⊢; omega
theorem TValue.fl_d (x : TValue) : fl x.d = x.c := by
  refine TValue.indM (p := fun x => fl x.d = x.c) (fun x ih => ?_) x
  have e : flE (x.list.map TValue.d) = x.list.map TValue.c := by rw [flE_map]; exact List.map_congr_left ih
  simp only [TValue.d_eq, fl, flL, TValue.c_eq, e, fl_string, TRow.fl_ds, List.cons_append, List.nil_append, List.append_nil]
theorem TRead.fl_d (x : TRead) : fl x.d = x.c := by
  simp only [TRead.d, fl, flL, TRead.c_eq, TValue.fl_d, TValue.c_eq, List.cons_append, List.nil_append, List.append_nil]
theorem TRead.fl_ds (xs : List TRead) : flE (xs.map TRead.d) = xs.map TRead.c := by rw [flE_map]; exact List.map_congr_left fun x _ => x.fl_d
theorem TTape.fl_d (x : TTape) : fl x.d = x.c := by
  simp only [TTape.d, fl, flL, TTape.c_eq, TRead.fl_ds, List.cons_append, List.nil_append, List.append_nil]
theorem TTape.fl_ds (xs : List TTape) : flE (xs.map TTape.d) = xs.map TTape.c := by rw [flE_map]; exact List.map_congr_left fun x _ => x.fl_d
theorem TEntry.fl_d (x : TEntry) : fl x.d = x.c := by
  simp only [TEntry.d, fl, flL, TEntry.c_eq, fl_int, TValue.fl_d, TValue.c_eq, List.cons_append, List.nil_append, List.append_nil]
theorem TEntry.fl_ds (xs : List TEntry) : flE (xs.map TEntry.d) = xs.map TEntry.c := by rw [flE_map]; exact List.map_congr_left fun x _ => x.fl_d
theorem TEngine.fl_d (x : TEngine) : fl x.d = x.c := by
  simp only [TEngine.d, fl, flL, TEngine.c_eq, TNotebook.fl_d, TNotebook.c_eq, TWorld.fl_d, TWorld.c_eq, TTape.fl_ds, TEntry.fl_ds, List.cons_append, List.nil_append, List.append_nil]
theorem mk_Engine {k : Int} {x : TEngine} {y : TEngine × Int} (h : wr? TEngine.markV TEngine.cnV k x = some y) : MCtr Tryz.prog 12 (.agg x.c) k (.agg y.1.c) y.2 := by
  obtain ⟨h1, h2, h3, h4⟩ := wr_spec h
  rw [h1, h2, ← TEngine.fl_d, ← TEngine.fl_d]
  exact mark_agg (by unfold I64; omega) (by kernel_rfl) fun w v F a b e => markEngine_run w x v F k a b e h3 h4
theorem hd_Engine {k z : Int} {x y : TEngine} (h : hd? k x.cnV = some z) (hy : y = x.markV k) : Ctr Tryz.prog 13 [.agg y.c, .one (.int .i64 k)] true [.one (.int .i64 z)] := by
  obtain ⟨h1, h2, h3⟩ := hd_spec h
  rw [h1, hy, ← TEngine.fl_d]
  exact held_agg (by unfold I64; omega) (by kernel_rfl) fun w v F a => heldEngine_run w x v F k a h2 h3
theorem TEdit.fl_d (x : TEdit) : fl x.d = x.c := by
  simp only [TEdit.d, fl, flL, TEdit.c_eq, TCell.fl_d, TCell.c_eq, List.cons_append, List.nil_append, List.append_nil]
theorem TEdit.fl_ds (xs : List TEdit) : flE (xs.map TEdit.d) = xs.map TEdit.c := by rw [flE_map]; exact List.map_congr_left fun x _ => x.fl_d
theorem mk_EditS {k : Int} {xs : List TEdit} {y : List TEdit × Int} (h : wr? TEdit.markL TEdit.cnL k xs = some y) : MCtr Tryz.prog 20 (.one (.sl (xs.map TEdit.c))) k (.one (.sl (y.1.map TEdit.c))) y.2 := by
  obtain ⟨h1, h2, h3, h4⟩ := wr_spec h
  rw [h1, h2, ← TEdit.fl_ds, ← TEdit.fl_ds]
  exact mark_sl (by unfold I64; omega) (by kernel_rfl) fun w v F a b e => markEditS_run w v xs F k a b e h3 h4
end Go.Proofs.YtbknilpmpjjfpaaGreat
