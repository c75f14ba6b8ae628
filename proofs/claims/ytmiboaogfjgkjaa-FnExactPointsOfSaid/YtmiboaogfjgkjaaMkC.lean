/- The laws' marks as contracts. Written by a program of mine. -/
import Derived.Test.YtmiboaogfjgkjaaPkC
import Derived.Test.YtmiboaogfjgkjaaPkT0
import Derived.Test.YtmiboaogfjgkjaaPkT1
import Derived.Test.YtmiboaogfjgkjaaMkB
set_option linter.unusedSimpArgs false
set_option linter.unusedVariables false
namespace Go.Proofs.Ytmiboaogfjgkjaa
open Go.RowKit Am
theorem fl_int (xs : List Int) : flE (xs.map D.int) = xs.map iC := by rw [flE_map]; rfl
theorem fl_string (xs : List ByteArray) : flE (xs.map D.str) = xs.map sC := by rw [flE_map]; rfl
theorem TOrigin.fl_d (x : TOrigin) : fl x.d = x.c := by
  simp only [TOrigin.d, fl, flL, TOrigin.c_eq, List.cons_append, List.nil_append, List.append_nil]
theorem TOrigin.fl_ds (xs : List TOrigin) : flE (xs.map TOrigin.d) = xs.map TOrigin.c := by rw [flE_map]; exact List.map_congr_left fun x _ => x.fl_d
theorem TRow.fl_d (x : TRow) : fl x.d = x.c := by
  simp only [TRow.d, fl, flL, TRow.c_eq, fl_int, TOrigin.fl_ds, List.cons_append, List.nil_append, List.append_nil]
theorem TRow.fl_ds (xs : List TRow) : flE (xs.map TRow.d) = xs.map TRow.c := by rw [flE_map]; exact List.map_congr_left fun x _ => x.fl_d
theorem TValue.indM {p : TValue → Prop} (h : ∀ x, (∀ y ∈ x.list, p y) → p x) : ∀ x, p x
  | ⟨kind, n, step, text, list, columns, rows⟩ => h _ fun y hy => TValue.indM h y
termination_by x => SizeOf.sizeOf x
decreasing_by
  have := List.sizeOf_lt_of_mem hy
  simp at this ⊢; omega
theorem TValue.fl_d (x : TValue) : fl x.d = x.c := by
  refine TValue.indM (p := fun x => fl x.d = x.c) (fun x ih => ?_) x
  have e : flE (x.list.map TValue.d) = x.list.map TValue.c := by rw [flE_map]; exact List.map_congr_left ih
  simp only [TValue.d_eq, fl, flL, TValue.c_eq, e, fl_string, TRow.fl_ds, List.cons_append, List.nil_append, List.append_nil]
theorem mk_Value {k : Int} {x : TValue} {y : TValue × Int} (h : wr? TValue.markV TValue.cnV k x = some y) : MCtr Try.prog 61 (.agg x.c) k (.agg y.1.c) y.2 := by
  obtain ⟨h1, h2, h3, h4⟩ := wr_spec h
  rw [h1, h2, ← TValue.fl_d, ← TValue.fl_d]
  exact mark_agg (by unfold I64; omega) (by kernel_rfl) fun w v F a b e => markValue_run w x v F k a b e h3 h4
theorem TMark.fl_d (x : TMark) : fl x.d = x.c := by
  simp only [TMark.d, fl, flL, TMark.c_eq, List.cons_append, List.nil_append, List.append_nil]
theorem TMark.fl_ds (xs : List TMark) : flE (xs.map TMark.d) = xs.map TMark.c := by rw [flE_map]; exact List.map_congr_left fun x _ => x.fl_d
theorem TScene.fl_d (x : TScene) : fl x.d = x.c := by
  simp only [TScene.d, fl, flL, TScene.c_eq, TMark.fl_ds, List.cons_append, List.nil_append, List.append_nil]
theorem mk_Scene {k : Int} {x : TScene} {y : TScene × Int} (h : wr? TScene.markV TScene.cnV k x = some y) : MCtr Try.prog 62 (.agg x.c) k (.agg y.1.c) y.2 := by
  obtain ⟨h1, h2, h3, h4⟩ := wr_spec h
  rw [h1, h2, ← TScene.fl_d, ← TScene.fl_d]
  exact mark_agg (by unfold I64; omega) (by kernel_rfl) fun w v F a b e => markScene_run w x v F k a b e h3 h4
theorem hd_Scene {k z : Int} {x y : TScene} (h : hd? k x.cnV = some z) (hy : y = x.markV k) : Ctr Try.prog 63 [.agg y.c, .one (.int .i64 k)] true [.one (.int .i64 z)] := by
  obtain ⟨h1, h2, h3⟩ := hd_spec h
  rw [h1, hy, ← TScene.fl_d]
  exact held_agg (by unfold I64; omega) (by kernel_rfl) fun w v F a => heldScene_run w x v F k a h2 h3
end Go.Proofs.Ytmiboaogfjgkjaa
