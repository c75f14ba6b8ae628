/- The struct Change as plain data: how it reads, its size count, its copy, its comparison. Written by a program of mine. -/
import Derived.Test.YtopjlbifglacpaaMild
import Derived.Test.YtopjlbifglacpaaTyBasic
import Derived.Test.YtopjlbifglacpaaTyLine
namespace Go.Proofs.Ytopjlbifglacpaa
open Go.RowKit

structure TChange where
  at_ : Int
  line : TLine
def TChange.d (x : TChange) : D := .agg [D.int x.at_, TLine.d x.line]
theorem TChange.wd_ (x : TChange) : wd x.d = 4 := by simp [TChange.d, TLine.d, wd, wdL]
theorem TChange.wds (xs : List TChange) : ∀ d ∈ xs.map TChange.d, wd d = 4 := by
  intro d hd
  obtain ⟨x, _, rfl⟩ := List.mem_map.1 hd
  exact x.wd_
theorem TChange.open_ {w : World} {x : TChange} {cs : List Value} {F : List Nat} (h : Rep w x.d cs F) :
    cs = [.int .i64 x.at_, .int .i64 x.line.cell, .bool x.line.fresh, .string x.line.text] ∧ F = [] ∧ I64 x.at_ ∧ I64 x.line.cell ∧ Fits x.line.text := by
  simp only [TChange.d, TLine.d, rep_agg, repL_cons, repL_nil, rep_int, rep_bool, rep_str, rep_sl, List.length_map] at h
  obtain ⟨_, _, _, _, rfl, rfl, ⟨rfl, rfl, i0⟩, ⟨_, _, _, _, rfl, rfl, ⟨_, _, _, _, rfl, rfl, ⟨rfl, rfl, i1⟩, ⟨_, _, _, _, rfl, rfl, ⟨rfl, rfl⟩, ⟨_, _, _, _, rfl, rfl, ⟨rfl, rfl, i3⟩, ⟨rfl, rfl⟩⟩⟩⟩, ⟨rfl, rfl⟩⟩⟩ := h
  exact ⟨rfl, by simp, i0, i1, i3⟩
theorem TChange.mk_ {w : World} {x : TChange} (i0 : I64 x.at_) (i1 : I64 x.line.cell) (i3 : Fits x.line.text) : Rep w x.d [.int .i64 x.at_, .int .i64 x.line.cell, .bool x.line.fresh, .string x.line.text] ([]) := by
  simp only [TChange.d, TLine.d, rep_agg]
  have h := (mk_cons (mk_int i0) (mk_cons (rep_agg.2 (mk_cons (mk_int i1) (mk_cons (mk_bool (w := w) (b := x.line.fresh)) (mk_cons (mk_str i3) (mk_nil (w := w)))))) (mk_nil (w := w))))
  simpa only [List.nil_append, List.append_nil, List.cons_append, List.append_assoc] using h
theorem TChange.info : (Try.prog.info? 122).map (fun i => (i.zero, i.size, i.bytes)) = some (some (.agg #[.int .i64 0, .int .i64 0, .bool false, .string ⟨#[]⟩]), 4, 40) := by kernel_rfl
def TChange.zero : TChange := ⟨0, ⟨0, false, ⟨#[]⟩⟩⟩
theorem TChange.zeroRep {w : World} : Rep w TChange.zero.d [.int .i64 0, .int .i64 0, .bool false, .string ⟨#[]⟩] [] := TChange.mk_ (x := TChange.zero) (by unfold I64; exact ⟨by decide, by decide⟩) (by unfold I64; exact ⟨by decide, by decide⟩) (by unfold Fits; exact Nat.zero_le _)
theorem TChange.linfo : (Try.prog.info? 154).map (fun i => (i.zero, i.size, i.bytes)) = some (some (.agg #[.int .i64 0, .int .i64 0, .bool false, .string ⟨#[]⟩]), 4, 40) := by kernel_rfl
theorem TChange.bk_ (x : TChange) : bk x.d = bk (TLine.d x.line) := by simp [TChange.d, bk, bkL]

end Go.Proofs.Ytopjlbifglacpaa
