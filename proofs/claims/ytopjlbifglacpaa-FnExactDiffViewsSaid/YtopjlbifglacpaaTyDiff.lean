/- The struct Diff as plain data: how it reads, its size count, its copy, its comparison. Written by a program of mine. -/
import Derived.Test.YtopjlbifglacpaaMild
import Derived.Test.YtopjlbifglacpaaTyBasic
import Derived.Test.YtopjlbifglacpaaTyChange
namespace Go.Proofs.Ytopjlbifglacpaa
open Go.RowKit

structure TDiff where
  length : Int
  changes : List TChange
def TDiff.d (x : TDiff) : D := .agg [D.int x.length, D.sl (x.changes.map TChange.d)]
theorem TDiff.wd_ (x : TDiff) : wd x.d = 2 := by simp [TDiff.d, wd, wdL]
theorem TDiff.wds (xs : List TDiff) : ∀ d ∈ xs.map TDiff.d, wd d = 2 := by
  intro d hd
  obtain ⟨x, _, rfl⟩ := List.mem_map.1 hd
  exact x.wd_
theorem TDiff.open_ {w : World} {x : TDiff} {cs : List Value} {F : List Nat} (h : Rep w x.d cs F) :
    ∃ (A1 : Option Addr) (c1 : Nat) (F1 : List Nat), cs = [.int .i64 x.length, .slice A1 x.changes.length c1] ∧ F = F1 ∧ I64 x.length ∧ SlAt w (.slice A1 x.changes.length c1) (x.changes.map TChange.d) F1 := by
  simp only [TDiff.d, rep_agg, repL_cons, repL_nil, rep_int, rep_bool, rep_str, rep_sl, List.length_map] at h
  obtain ⟨_, _, _, _, rfl, rfl, ⟨rfl, rfl, i0⟩, ⟨_, _, F1, _, rfl, rfl, ⟨A1, c1, rfl, q1⟩, ⟨rfl, rfl⟩⟩⟩ := h
  exact ⟨A1, c1, F1, rfl, by simp, i0, q1⟩
theorem TDiff.mk_ {w : World} {x : TDiff} {A1 : Option Addr} {c1 : Nat} {F1 : List Nat} (i0 : I64 x.length) (q1 : SlAt w (.slice A1 x.changes.length c1) (x.changes.map TChange.d) F1) : Rep w x.d [.int .i64 x.length, .slice A1 x.changes.length c1] (F1) := by
  simp only [TDiff.d, rep_agg]
  have h := (mk_cons (mk_int i0) (mk_cons (mk_sl q1) (mk_nil (w := w))))
  simpa only [List.nil_append, List.append_nil, List.cons_append, List.append_assoc] using h
theorem TDiff.info : (Try.prog.info? 46).map (fun i => (i.zero, i.size, i.bytes)) = some (some (.agg #[.int .i64 0, .slice none 0 0]), 2, 32) := by kernel_rfl
def TDiff.zero : TDiff := ⟨0, []⟩
theorem TDiff.zeroRep {w : World} : Rep w TDiff.zero.d [.int .i64 0, .slice none 0 0] [] := TDiff.mk_ (x := TDiff.zero) (by unfold I64; exact ⟨by decide, by decide⟩) slAt_nil
theorem TDiff.linfo : (Try.prog.info? 41).map (fun i => (i.zero, i.size, i.bytes)) = some (some (.agg #[.int .i64 0, .slice none 0 0]), 2, 32) := by kernel_rfl
theorem TDiff.bk_ (x : TDiff) : bk x.d = (x.changes.length + bkL (x.changes.map TChange.d)) := by simp [TDiff.d, bk, bkL]

end Go.Proofs.Ytopjlbifglacpaa
