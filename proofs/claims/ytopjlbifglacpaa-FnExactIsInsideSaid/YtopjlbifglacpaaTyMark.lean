/- The struct Mark as plain data: how it reads, its size count, its copy, its comparison. Written by a program of mine. -/
import Derived.Test.YtopjlbifglacpaaMild
import Derived.Test.YtopjlbifglacpaaTyBasic
namespace Go.Proofs.Ytopjlbifglacpaa
open Go.RowKit

structure TMark where
  x : Int
  y : Int
  w : Int
  h : Int
def TMark.d (x : TMark) : D := .agg [D.int x.x, D.int x.y, D.int x.w, D.int x.h]
theorem TMark.wd_ (x : TMark) : wd x.d = 4 := by simp [TMark.d, wd, wdL]
theorem TMark.wds (xs : List TMark) : ∀ d ∈ xs.map TMark.d, wd d = 4 := by
  intro d hd
  obtain ⟨x, _, rfl⟩ := List.mem_map.1 hd
  exact x.wd_
theorem TMark.open_ {w : World} {x : TMark} {cs : List Value} {F : List Nat} (h : Rep w x.d cs F) :
    cs = [.int .i64 x.x, .int .i64 x.y, .int .i64 x.w, .int .i64 x.h] ∧ F = [] ∧ I64 x.x ∧ I64 x.y ∧ I64 x.w ∧ I64 x.h := by
  simp only [TMark.d, rep_agg, repL_cons, repL_nil, rep_int, rep_bool, rep_str, rep_sl, List.length_map] at h
  obtain ⟨_, _, _, _, rfl, rfl, ⟨rfl, rfl, i0⟩, ⟨_, _, _, _, rfl, rfl, ⟨rfl, rfl, i1⟩, ⟨_, _, _, _, rfl, rfl, ⟨rfl, rfl, i2⟩, ⟨_, _, _, _, rfl, rfl, ⟨rfl, rfl, i3⟩, ⟨rfl, rfl⟩⟩⟩⟩⟩ := h
  exact ⟨rfl, by simp, i0, i1, i2, i3⟩
theorem TMark.mk_ {w : World} {x : TMark} (i0 : I64 x.x) (i1 : I64 x.y) (i2 : I64 x.w) (i3 : I64 x.h) : Rep w x.d [.int .i64 x.x, .int .i64 x.y, .int .i64 x.w, .int .i64 x.h] ([]) := by
  simp only [TMark.d, rep_agg]
  have h := (mk_cons (mk_int i0) (mk_cons (mk_int i1) (mk_cons (mk_int i2) (mk_cons (mk_int i3) (mk_nil (w := w))))))
  simpa only [List.nil_append, List.append_nil, List.cons_append, List.append_assoc] using h
theorem TMark.info : (Try.prog.info? 114).map (fun i => (i.zero, i.size, i.bytes)) = some (some (.agg #[.int .i64 0, .int .i64 0, .int .i64 0, .int .i64 0]), 4, 32) := by kernel_rfl
def TMark.zero : TMark := ⟨0, 0, 0, 0⟩
theorem TMark.zeroRep {w : World} : Rep w TMark.zero.d [.int .i64 0, .int .i64 0, .int .i64 0, .int .i64 0] [] := TMark.mk_ (x := TMark.zero) (by unfold I64; exact ⟨by decide, by decide⟩) (by unfold I64; exact ⟨by decide, by decide⟩) (by unfold I64; exact ⟨by decide, by decide⟩) (by unfold I64; exact ⟨by decide, by decide⟩)
theorem TMark.linfo : (Try.prog.info? 150).map (fun i => (i.zero, i.size, i.bytes)) = some (some (.agg #[.int .i64 0, .int .i64 0, .int .i64 0, .int .i64 0]), 4, 32) := by kernel_rfl
theorem TMark.bk_ (x : TMark) : bk x.d = 0 := by simp [TMark.d, bk, bkL]

end Go.Proofs.Ytopjlbifglacpaa
