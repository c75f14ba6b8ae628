/- Contracts of the library's functions, as the walks ask them. -/
import Derived.Test.YtmiboaogfjgkjaaDoorLm
import Derived.Test.YtmiboaogfjgkjaaDoorWn
import Derived.Test.YtmiboaogfjgkjaaDoorSh
import Derived.Lib.ItoaLen
import Derived.Lib.LaidTab
set_option linter.unusedSimpArgs false
set_option linter.unusedVariables false
namespace Go.Proofs.YtmiboaogfjgkjaaDoor
open Go.RowKit Am
theorem dvs_1 {w : World} {a : DV} {vs : List Value} {F : List Nat} (h : dvsRel w [a] vs F) : ∃ v F1, vs = [v] ∧ F = F1 ∧ dvRel w a v F1 := by
  simp only [dvsRel] at h
  obtain ⟨v, _, F1, _, rfl, rfl, h1, rfl, rfl⟩ := h
  exact ⟨v, F1, rfl, by simp, h1⟩
theorem res_str {N : Nat → Prop} {w : World} {FA : List Nat} {s : ByteArray} (h : s.size ≤ 9223372036854775807) : resOk true N w FA [.one (.str s)] [.string s] := by
  simp only [resOk, if_true, dvsOw, dvOw, Ow]
  exact ⟨[], ⟨_, [], [], [], rfl, rfl, ⟨rfl, rfl, h⟩, rfl, rfl⟩, List.nodup_nil⟩
theorem rpL_u64 {w : World} : ∀ {zs : List Int} {vs : List Value} {F : List Nat}, RpL w (zs.map (L.int .u64)) vs F → vs = zs.map (Value.int .u64)
  | [], _, _, h => by simp only [List.map_nil, RpL] at h; simp [h.1]
  | z :: zs, _, _, h => by
    simp only [List.map_cons, RpL, Rp] at h
    obtain ⟨v, vs', F1, F2, rfl, rfl, ⟨rfl, rfl, _⟩, h2⟩ := h
    simp [rpL_u64 h2]
theorem below_grown {w : World} {k : Nat} {os : Array Obj} : Below w.heap.size w (Sort.grow (w.drewN k) os) := by
  refine ⟨rfl, rfl, rfl, ?_, fun j hj => ?_⟩
  · show w.heap.size ≤ (w.heap ++ os).size
    simp
  · show (w.heap ++ os)[j]? = w.heap[j]?
    rw [Array.getElem?_append_left hj]
theorem glb_tab {w : World} {G : Nat → Prop} (h : Glb w G) : Lib.TabIs Tryd.prog w "internal/strconv.uint64pow10" .u64 Lib.pow10Tab := by
  obtain ⟨cur, ty, fz, F, h1, _, h3, _⟩ := h.2 (1, Lib.pow10Tab.map (L.int .u64)) (List.mem_of_mem_head? rfl)
  have h4 := rpL_u64 h3
  have hg : Tryd.prog.globalNamed "internal/strconv.uint64pow10" = some 1 := by kernel_rfl
  unfold Lib.TabIs World.var?
  rw [hg, Option.bind_some, h1, ← h4]
theorem x_strconv_Itoa_ctr (a0 : Int) (r : ByteArray) (hM : x_strconv_Itoa a0 = some r) : Ctr Tryd.prog 33 [.one (.int .i64 a0)] true [.one (.str r)] := by
  obtain rfl := Option.some.inj hM
  refine ⟨by kernel_rfl, fun w vs FA ⟨G, hG⟩ hd => ?_⟩
  obtain ⟨v, F1, rfl, rfl, h1⟩ := dvs_1 hd
  simp only [dvRel, Rp] at h1
  obtain ⟨rfl, rfl, h2⟩ := h1
  have hb := (inK_i64 a0).1 h2
  refine (Tryd.strconv_Itoa a0 hb.1 hb.2 w (glb_tab hG)).mono ?_
  rintro e w' ⟨rfl, k, os, rfl⟩
  have hl := Lib.itoa_length_le a0 hb.1 hb.2
  exact ⟨[_], rfl, res_str (by show (Lib.itoa a0).toArray.size ≤ _; simp; omega), below_grown⟩
theorem rpL_u64_mk {w : World} : ∀ {zs : List Int}, (∀ z ∈ zs, InK .u64 z) → RpL w (zs.map (L.int .u64)) (zs.map (Value.int .u64)) []
  | [], _ => by simp only [List.map_nil, RpL]; exact ⟨trivial, trivial⟩
  | z :: zs, h => by
    simp only [List.map_cons, RpL, Rp]
    exact ⟨_, _, [], [], rfl, rfl, ⟨rfl, rfl, h z (by simp)⟩, rpL_u64_mk fun y hy => h y (by simp [hy])⟩
theorem glb_one {H : Type} {enc : TypeId × Value → H} {W : World} {base : Nat} {sp : Nat → Bool} {held : Bool} {fuel : Nat} {t e n : Nat} {cs : Array Value} {q : List MemPlace} (ht : Tryd.prog.underlying t = some (.array n e)) (he : Tryd.prog.underlying e = some (.int .u64)) (hce : Tryd.prog.cellsOf e = 1) (hct : Tryd.prog.cellsOf t = n)
    (hg : Tryd.prog.globalNamed "internal/strconv.uint64pow10" = some 1) (hv : W.var? Tryd.prog "internal/strconv.uint64pow10" = some cs) (hd : DataW.trod enc Tryd.prog W base sp held fuel t cs.toList = some (Rows.laid_internal_strconv_uint64pow10, q)) : ∃ G, Glb W G := by
  have ed : (Rows.laid_internal_strconv_uint64pow10 : DataW H) = Lib.tabData .u64 Lib.pow10Tab := rfl
  rw [ed] at hd
  have ec := Lib.cells_of_tab ht he hce hct hd
  have hgl : glb = [(1, Lib.pow10Tab.map (L.int .u64))] := rfl
  unfold World.var? at hv
  rw [hg, Option.bind_some] at hv
  split at hv
  · rename_i cs' ty fz hh
    obtain rfl := Option.some.inj hv
    refine ⟨fun b => b = 1, fun b hb => ?_, fun p hp => ?_⟩
    · subst hb; exact lt_of_some hh
    · rw [hgl] at hp
      obtain rfl := List.mem_singleton.1 hp
      refine ⟨_, _, _, [], hh, rfl, ?_, by simp⟩
      rw [ec]
      exact rpL_u64_mk (by unfold InK; decide)
  · cases hv
end Go.Proofs.YtmiboaogfjgkjaaDoor
