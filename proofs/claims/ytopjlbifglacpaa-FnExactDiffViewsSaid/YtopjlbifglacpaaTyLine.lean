/- The struct Line as plain data: how it reads, its size count, its copy, its comparison. Written by a program of mine. -/
import Derived.Test.YtopjlbifglacpaaMild
import Derived.Test.YtopjlbifglacpaaTyBasic
namespace Go.Proofs.Ytopjlbifglacpaa
open Go.RowKit

structure TLine where
  cell : Int
  fresh : Bool
  text : ByteArray
def TLine.d (x : TLine) : D := .agg [D.int x.cell, D.bool x.fresh, D.str x.text]
theorem TLine.wd_ (x : TLine) : wd x.d = 3 := by simp [TLine.d, wd, wdL]
theorem TLine.wds (xs : List TLine) : ∀ d ∈ xs.map TLine.d, wd d = 3 := by
  intro d hd
  obtain ⟨x, _, rfl⟩ := List.mem_map.1 hd
  exact x.wd_
theorem TLine.open_ {w : World} {x : TLine} {cs : List Value} {F : List Nat} (h : Rep w x.d cs F) :
    cs = [.int .i64 x.cell, .bool x.fresh, .string x.text] ∧ F = [] ∧ I64 x.cell ∧ Fits x.text := by
  simp only [TLine.d, rep_agg, repL_cons, repL_nil, rep_int, rep_bool, rep_str, rep_sl, List.length_map] at h
  obtain ⟨_, _, _, _, rfl, rfl, ⟨rfl, rfl, i0⟩, ⟨_, _, _, _, rfl, rfl, ⟨rfl, rfl⟩, ⟨_, _, _, _, rfl, rfl, ⟨rfl, rfl, i2⟩, ⟨rfl, rfl⟩⟩⟩⟩ := h
  exact ⟨rfl, by simp, i0, i2⟩
theorem TLine.mk_ {w : World} {x : TLine} (i0 : I64 x.cell) (i2 : Fits x.text) : Rep w x.d [.int .i64 x.cell, .bool x.fresh, .string x.text] ([]) := by
  simp only [TLine.d, rep_agg]
  have h := (mk_cons (mk_int i0) (mk_cons (mk_bool (w := w) (b := x.fresh)) (mk_cons (mk_str i2) (mk_nil (w := w)))))
  simpa only [List.nil_append, List.append_nil, List.cons_append, List.append_assoc] using h
theorem TLine.info : (Try.prog.info? 109).map (fun i => (i.zero, i.size, i.bytes)) = some (some (.agg #[.int .i64 0, .bool false, .string ⟨#[]⟩]), 3, 32) := by kernel_rfl
def TLine.zero : TLine := ⟨0, false, ⟨#[]⟩⟩
theorem TLine.zeroRep {w : World} : Rep w TLine.zero.d [.int .i64 0, .bool false, .string ⟨#[]⟩] [] := TLine.mk_ (x := TLine.zero) (by unfold I64; exact ⟨by decide, by decide⟩) (by unfold Fits; exact Nat.zero_le _)
theorem TLine.linfo : (Try.prog.info? 108).map (fun i => (i.zero, i.size, i.bytes)) = some (some (.agg #[.int .i64 0, .bool false, .string ⟨#[]⟩]), 3, 32) := by kernel_rfl
theorem TLine.bk_ (x : TLine) : bk x.d = x.text.size := by simp [TLine.d, bk, bkL]

end Go.Proofs.Ytopjlbifglacpaa
