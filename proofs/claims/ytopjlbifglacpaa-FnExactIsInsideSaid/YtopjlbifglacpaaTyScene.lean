/- The struct Scene as plain data: how it reads, its size count, its copy, its comparison. Written by a program of mine. -/
import Derived.Test.YtopjlbifglacpaaMild
import Derived.Test.YtopjlbifglacpaaTyBasic
import Derived.Test.YtopjlbifglacpaaTyMark
namespace Go.Proofs.Ytopjlbifglacpaa
open Go.RowKit

structure TScene where
  w : Int
  h : Int
  marks : List TMark
def TScene.d (x : TScene) : D := .agg [D.int x.w, D.int x.h, D.sl (x.marks.map TMark.d)]
theorem TScene.wd_ (x : TScene) : wd x.d = 3 := by simp [TScene.d, wd, wdL]
theorem TScene.wds (xs : List TScene) : ∀ d ∈ xs.map TScene.d, wd d = 3 := by
  intro d hd
  obtain ⟨x, _, rfl⟩ := List.mem_map.1 hd
  exact x.wd_
theorem TScene.open_ {w : World} {x : TScene} {cs : List Value} {F : List Nat} (h : Rep w x.d cs F) :
    ∃ (A2 : Option Addr) (c2 : Nat) (F2 : List Nat), cs = [.int .i64 x.w, .int .i64 x.h, .slice A2 x.marks.length c2] ∧ F = F2 ∧ I64 x.w ∧ I64 x.h ∧ SlAt w (.slice A2 x.marks.length c2) (x.marks.map TMark.d) F2 := by
  simp only [TScene.d, rep_agg, repL_cons, repL_nil, rep_int, rep_bool, rep_str, rep_sl, List.length_map] at h
  obtain ⟨_, _, _, _, rfl, rfl, ⟨rfl, rfl, i0⟩, ⟨_, _, _, _, rfl, rfl, ⟨rfl, rfl, i1⟩, ⟨_, _, F2, _, rfl, rfl, ⟨A2, c2, rfl, q2⟩, ⟨rfl, rfl⟩⟩⟩⟩ := h
  exact ⟨A2, c2, F2, rfl, by simp, i0, i1, q2⟩
theorem TScene.mk_ {w : World} {x : TScene} {A2 : Option Addr} {c2 : Nat} {F2 : List Nat} (i0 : I64 x.w) (i1 : I64 x.h) (q2 : SlAt w (.slice A2 x.marks.length c2) (x.marks.map TMark.d) F2) : Rep w x.d [.int .i64 x.w, .int .i64 x.h, .slice A2 x.marks.length c2] (F2) := by
  simp only [TScene.d, rep_agg]
  have h := (mk_cons (mk_int i0) (mk_cons (mk_int i1) (mk_cons (mk_sl q2) (mk_nil (w := w)))))
  simpa only [List.nil_append, List.append_nil, List.cons_append, List.append_assoc] using h
theorem TScene.info : (Try.prog.info? 35).map (fun i => (i.zero, i.size, i.bytes)) = some (some (.agg #[.int .i64 0, .int .i64 0, .slice none 0 0]), 3, 40) := by kernel_rfl
def TScene.zero : TScene := ⟨0, 0, []⟩
theorem TScene.zeroRep {w : World} : Rep w TScene.zero.d [.int .i64 0, .int .i64 0, .slice none 0 0] [] := TScene.mk_ (x := TScene.zero) (by unfold I64; exact ⟨by decide, by decide⟩) (by unfold I64; exact ⟨by decide, by decide⟩) slAt_nil
theorem TScene.linfo : (Try.prog.info? 30).map (fun i => (i.zero, i.size, i.bytes)) = some (some (.agg #[.int .i64 0, .int .i64 0, .slice none 0 0]), 3, 40) := by kernel_rfl
theorem TScene.bk_ (x : TScene) : bk x.d = (x.marks.length + bkL (x.marks.map TMark.d)) := by simp [TScene.d, bk, bkL]

end Go.Proofs.Ytopjlbifglacpaa
