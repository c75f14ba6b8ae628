/- Copies of lines. -/
import Derived.Test.YtopjlbifglacpaaLineB
import Derived.Test.YtopjlbifglacpaaOwn
import Derived.StillTailTactics
import Derived.Deep.QuietTactic
import Derived.BigQuiet
import Derived.Deep.DeepFit
import Derived.Deep.DeepMust
namespace Go.Proofs.Ytopjlbifglacpaa
open Go.RowKit

theorem toLine_any (a : Int) (b : Bool) (s : ByteArray) (w : World) :
    Calls Try.prog 60 #[.agg #[.int .i64 a, .bool b, .string s]] w fun e w' =>
      e = .returned (.agg #[.int .i64 a, .bool b, .string s]) ∧ Below w.heap.size w w' := by
  go_enter Try.func60, Try.ntmps60
  go_wp2
  refine bodyPost_ret (v := .agg #[.int .i64 a, .bool b, .string s]) (by simp [results, Try.results60, go_sem]) rfl ⟨rfl, ?_⟩
  exact (((Below.refl _ _).alloc (Nat.le_refl _) _).alloc (by simp) _).alloc (by simp; omega) _

theorem eqLine_same (a : Int) (b : Bool) (s : ByteArray) (w : World) :
    Calls Try.prog 62 #[.agg #[.int .i64 a, .bool b, .string s], .agg #[.int .i64 a, .bool b, .string s]] w fun e w' =>
      e = .returned (.bool true) ∧ Below w.heap.size w w' := by
  go_enter Try.func62, Try.ntmps62
  go_wp2
  go_ret
  exact ⟨rfl, ((Below.refl _ _).alloc (Nat.le_refl _) _).alloc (by simp) _⟩

theorem lineWd (ls : List Line) : ∀ d ∈ ls.map Line.d, wd d = 3 := by intro d hd; obtain ⟨l, _, rfl⟩ := List.mem_map.1 hd; rfl
theorem lineRep {w : World} {a : Int} {b : Bool} {t : ByteArray} (h1 : I64 a) (h2 : t.size ≤ 9223372036854775807) : Rep w (Line.d ⟨a, b, t⟩) [.int .i64 a, .bool b, .string t] [] := by
  simp only [Line.d, Rep, RepL]
  exact ⟨[.int .i64 a], [.bool b, .string t], [], [], rfl, rfl, ⟨rfl, rfl, h1⟩, [.bool b], [.string t], [], [], rfl, rfl, ⟨rfl, rfl⟩, [.string t], [], [], [], rfl, rfl, ⟨rfl, rfl, h2⟩, rfl, rfl⟩
theorem zeroLine {w : World} : Rep w (Line.d ⟨0, false, ⟨#[]⟩⟩) [.int .i64 0, .bool false, .string ⟨#[]⟩] [] := lineRep (by unfold I64; omega) (Nat.zero_le _)
theorem line_info : (Try.prog.info? 109).map (fun i => (i.zero, i.size, i.bytes)) = some (some (.agg #[.int .i64 0, .bool false, .string ⟨#[]⟩]), 3, 32) := by kernel_rfl

set_option maxHeartbeats 400000 in
theorem toLineS_new (w : World) (v : Value) (ls : List Line) (F : List Nat) (h : SlAt w v (ls.map Line.d) F) (hn : ls.length ≤ 1048576) :
    Calls Try.prog 14 #[v] w fun e w' => ∃ A c F', e = .returned (.slice A ls.length c) ∧ SlAt w' (.slice A ls.length c) (ls.map Line.d) F' ∧ Fr w.heap.size w' F' ∧ Below w.heap.size w w' := by
  obtain ⟨A, c, rfl, hc, _⟩ := h.form
  rw [List.length_map] at h hc ⊢
  go_enter Try.func14, Try.ntmps14
  go_wp2_with (at_make; go_loud (refine wpList_make_bld _ rfl _ _ _ rfl 109 3 32 _ Try.underlying25 line_info rfl (by omega) _ _ _ _ ls.length rfl rfl rfl rfl (by omega) (by omega) (Line.d ⟨0, false, ⟨#[]⟩⟩) zeroLine ?_))
  intro w1 hb1 hw1
  go_wp2_with fail
  go_loopw [4] (fun i wr => ∃ (k : Nat) (Fs : List Nat), k ≤ ls.length ∧ i = .int .i64 k ∧ Bld w.heap.size 109 3 wr (.slice (some ⟨w.heap.size, 0, none⟩) ls.length ls.length) ((ls.map Line.d).take k ++ List.replicate (ls.length - k) (Line.d ⟨0, false, ⟨#[]⟩⟩)) Fs ∧ Below w.heap.size w wr) (fun i _ => ls.length - (intOf i).toNat)
  case atStart => exact ⟨0, [], Nat.zero_le _, rfl, by simpa using hb1, hw1⟩
  case round =>
    obtain ⟨k, Fs, hk, rfl, hbl, hb⟩ := hrel
    by_cases hlt : k < ls.length
    · obtain ⟨b, off, ys, Fi, rfl, hbl0, _, hr, hlen, _, hcell⟩ := (show SlAt wr _ _ _ from h.below hb).at_ (i := k) (lineWd ls) (by simpa using hlt)
      simp only [List.getElem_map] at hr
      obtain ⟨rfl, _, hI, hS⟩ := Line.rep hr
      have c0 : wr.cell? ⟨b, off + k * 3, none⟩ = _ := hcell 0 _ rfl
      have c1 := hcell 1 _ rfl
      have c2 := hcell 2 _ rfl
      clear hcell hr
      go_wp2_with fail
      refine (toLine_any _ _ _ _).mono ?_
      rintro e w2 ⟨rfl, hw2⟩
      have erep : List.replicate (ls.length - k) (Line.d ⟨0, false, ⟨#[]⟩⟩) = Line.d ⟨0, false, ⟨#[]⟩⟩ :: List.replicate (ls.length - (k + 1)) (Line.d ⟨0, false, ⟨#[]⟩⟩) := by
        rw [← List.replicate_succ]; congr 1; omega
      rw [erep] at hbl
      clear erep
      have hbl2 := hbl.below hw2
      go_wp2_with ((with_reducible show wpList _ _ _ (Oper.mk none (Op.store _ _ _) _ _ _ _ :: _) _ _); go_loud (refine wpList_store_bld _ rfl _ _ _ rfl (x := Line.d ls[k]) (Fx := []) _ rfl rfl rfl line_info hbl2 (by intro d hd; simp only [List.mem_append, List.mem_cons, List.mem_replicate] at hd; rcases hd with hd | rfl | ⟨_, rfl⟩; exact lineWd ls d (List.mem_of_mem_take hd); rfl; rfl) rfl (lineRep hI hS) (Fr.nil _ _) (by simp) (by simp; omega) ?_))
      intro w3 Fs3 hbl3 hg3 _
      go_wp2_with fail
      go_roundw
      case rel =>
        refine ⟨k + 1, Fs3, by omega, by go_num, ?_, (hb.trans (hw2.mono hb.size)).grown hg3 (Nat.le_trans hb.size hw2.size) (by simp)⟩
        rw [List.take_succ_eq_append_getElem (by simpa using hlt)]
        simpa using hbl3
      case measure => simp [intOf]; omega
    · have hk' : k = ls.length := by omega
      subst hk'
      go_wp2_with fail
      go_ret
      have hbl' : Bld w.heap.size 109 3 wr (.slice (some ⟨w.heap.size, 0, none⟩) ls.length ls.length) (ls.map Line.d) Fs := by simpa [List.take_of_length_le] using hbl
      obtain ⟨F', g1, g2, _⟩ := hbl'.done
      exact ⟨_, _, F', rfl, g1, g2, hb⟩
end Go.Proofs.Ytopjlbifglacpaa
