/- Contracts of the library's functions, as the walks ask them. -/
import Derived.Test.YtmiboaogfjgkjaaGreatDoorLm
import Derived.Test.YtmiboaogfjgkjaaGreatDoorWn
import Derived.Test.YtmiboaogfjgkjaaGreatDoorSh
import Derived.Lib.ItoaLen
import Derived.Lib.LaidTab
set_option linter.unusedSimpArgs false
set_option linter.unusedVariables false
namespace Go.Proofs.YtmiboaogfjgkjaaGreatDoor
open Go.RowKit Am
theorem dvs_1 {w : World} {a : DV} {vs : List Value} {F : List Nat} (h : dvsRel w [a] vs F) : ∃ v F1, vs = [v] ∧ F = F1 ∧ dvRel w a v F1 := by
  simp only [dvsRel] at h
  obtain ⟨v, _, F1, _, rfl, rfl, h1, rfl, rfl⟩ := h
  exact ⟨v, F1, rfl, by simp, h1⟩
theorem res_str {N : Nat → Prop} {w : World} {FA : List Nat} {s : ByteArray} (h : s.size ≤ 9223372036854775807) : resOk true N w FA [.one (.str s)] [.string s] := by
  simp only [resOk, if_true, dvsOw, dvOw, Ow]
  exact ⟨[], ⟨_, [], [], [], rfl, rfl, ⟨rfl, rfl, h⟩, rfl, rfl⟩, List.nodup_nil⟩
theorem rpL_u64 {w : World} : ∀ {zs : List Int} {vs : List Value} {F : List Nat}, RpL w (zs.map (L.int .u64)) vs F → vs = zs.map (Value.int .u64)
  | [], _, _, h => by simp only [List.map_nil, RpL] at h; simp [h.1]
  | z :: zs, _, _, h => by
    simp only [List.map_cons, RpL, Rp] at h
    obtain ⟨v, vs', F1, F2, rfl, rfl, ⟨rfl, rfl, _⟩, h2⟩ := h
    simp [rpL_u64 h2]
theorem below_grown {w : World} {k : Nat} {os : Array Obj} : Below w.heap.size w (Sort.grow (w.drewN k) os) := by
  refine ⟨rfl, rfl, rfl, ?_, fun j hj => ?_⟩
  · show w.heap.size ≤ (w.heap ++ os).size
    simp
  · show (w.heap ++ os)[j]? = w.heap[j]?
    rw [Array.getElem?_append_left hj]
theorem glb_tab {w : World} {G : Nat → Prop} (h : Glb w G) : Lib.TabIs Tryz.prog w "internal/strconv.uint64pow10" .u64 Lib.pow10Tab := by
  obtain ⟨cur, ty, fz, F, h1, _, h3, _⟩ := h.2 (1, Lib.pow10Tab.map (L.int .u64)) (List.mem_of_mem_head? rfl)
  have h4 := rpL_u64 h3
  have hg : Tryz.prog.globalNamed "internal/strconv.uint64pow10" = some 1 := by kernel_rfl
  unfold Lib.TabIs World.var?
  rw [hg, Option.bind_some, h1, ← h4]
theorem x_strconv_Itoa_ctr (a0 : Int) (r : ByteArray) (hM : x_strconv_Itoa a0 = some r) : Ctr Tryz.prog 97 [.one (.int .i64 a0)] true [.one (.str r)] := by
  obtain rfl := Option.some.inj hM
  refine ⟨by kernel_rfl, fun w vs FA ⟨G, hG⟩ hd => ?_⟩
  obtain ⟨v, F1, rfl, rfl, h1⟩ := dvs_1 hd
  simp only [dvRel, Rp] at h1
  obtain ⟨rfl, rfl, h2⟩ := h1
  have hb := (inK_i64 a0).1 h2
  refine (Tryz.strconv_Itoa a0 hb.1 hb.2 w (glb_tab hG)).mono ?_
  rintro e w' ⟨rfl, k, os, rfl⟩
  have hl := Lib.itoa_length_le a0 hb.1 hb.2
  exact ⟨[_], rfl, res_str (by show (Lib.itoa a0).toArray.size ≤ _; simp; omega), below_grown⟩
theorem dvs_2 {w : World} {a b : DV} {vs : List Value} {F : List Nat} (h : dvsRel w [a, b] vs F) : ∃ v u F1 F2, vs = [v, u] ∧ F = F1 ++ F2 ∧ dvRel w a v F1 ∧ dvRel w b u F2 := by
  simp only [dvsRel] at h
  obtain ⟨v, _, F1, _, rfl, rfl, h1, u, _, F2, _, rfl, rfl, h2, rfl, rfl⟩ := h
  exact ⟨v, u, F1, F2, rfl, by simp, h1, h2⟩
theorem rpE_strs {w : World} : ∀ {ss : List ByteArray} {xs : List Value} {F : List Nat}, RpE w (ss.map fun s => [L.str s]) xs F → xs = ss.map Value.string
  | [], _, _, h => by simp only [List.map_nil, RpE] at h; simp [h.1]
  | s :: ss, _, _, h => by
    simp only [List.map_cons, RpE, RpL, Rp] at h
    obtain ⟨v1, v2, F1, F2, rfl, rfl, ⟨v, vs', G1, G2, rfl, rfl, ⟨rfl, rfl, _⟩, rfl, rfl⟩, h2⟩ := h
    simp [rpE_strs h2]
theorem x_strings_Join_ctr (a0 : List ByteArray) (a1 : ByteArray) (r : ByteArray) (hM : x_strings_Join a0 a1 = some r) : Ctr Tryz.prog 98 [.one (.sl (a0.map sC)), .one (.str a1)] true [.one (.str r)] := by
  unfold x_strings_Join at hM
  split at hM
  · rename_i hs
    obtain rfl := Option.some.inj hM
    refine ⟨by kernel_rfl, fun w vs FA _ hd => ?_⟩
    obtain ⟨v, u, F1, F2, rfl, rfl, h1, h2⟩ := dvs_2 hd
    simp only [dvRel, Rp] at h1 h2
    obtain ⟨rfl, rfl, h2⟩ := h2
    obtain ⟨A, c, rfl, h3, h4, ⟨h5, rfl⟩ | ⟨b, off, xs, Fs, rfl, h6, rfl, h7, h8⟩⟩ := h1
    · obtain rfl : a0 = [] := by simpa using h5
      refine (Tryz.strings_Join_none A c a1 w).mono ?_
      rintro e w' ⟨rfl, rfl⟩
      exact ⟨[_], rfl, res_str (by show (Lib.join _ _).toArray.size ≤ _; simp [Lib.join]), Below.refl _ _⟩
    · have h9 : xs = a0.map Value.string := rpE_strs h8
      subst h9
      rw [List.length_map] at h3 ⊢
      refine (Tryz.strings_Join b off c a0 a1 w (fun j x hx => h7 j _ (by simp [hx])) h6 hs.1 h3 hs.2).mono ?_
      rintro e w' ⟨rfl, hb⟩
      exact ⟨[_], rfl, res_str (by show (Lib.join _ _).toArray.size ≤ _; have := hs.2; simp; omega), hb⟩
  · cases hM
theorem rpL_u64_mk {w : World} : ∀ {zs : List Int}, (∀ z ∈ zs, InK .u64 z) → RpL w (zs.map (L.int .u64)) (zs.map (Value.int .u64)) []
  | [], _ => by simp only [List.map_nil, RpL]; exact ⟨trivial, trivial⟩
  | z :: zs, h => by
    simp only [List.map_cons, RpL, Rp]
    exact ⟨_, _, [], [], rfl, rfl, ⟨rfl, rfl, h z (by simp)⟩, rpL_u64_mk fun y hy => h y (by simp [hy])⟩
def Stands (W : World) (p : Nat × List L) : Prop := ∃ cur ty fz F, W.heap[p.1]? = some (.cells cur ty fz) ∧ RpL W p.2 cur.toList F
theorem glb_all {W : World} (h : ∀ p ∈ glb, Stands W p) : ∃ G, Glb W G :=
  ⟨fun b => b < W.heap.size, fun _ h => h, fun p hp => by
    obtain ⟨cur, ty, fz, F, h1, h2⟩ := h p hp
    exact ⟨cur, ty, fz, F, h1, lt_of_some h1, h2, h2.lt⟩⟩
theorem var_heap {P : Program} {W : World} {name : String} {g : Nat} {cs : Array Value} (hg : P.globalNamed name = some g) (hv : W.var? P name = some cs) : ∃ ty fz, W.heap[g]? = some (.cells cs ty fz) := by
  unfold World.var? at hv
  rw [hg, Option.bind_some] at hv
  split at hv
  · rename_i cs' ty fz hh
    obtain rfl := Option.some.inj hv
    exact ⟨ty, fz, hh⟩
  · cases hv
def tabL : List L := Lib.pow10Tab.map (L.int .u64)
theorem tab_stands {H : Type} {enc : TypeId × Value → H} {W : World} {base : Nat} {sp : Nat → Bool} {held : Bool} {fuel : Nat} {t e n : Nat} {cs : Array Value} {q : List MemPlace} (ht : Tryz.prog.underlying t = some (.array n e)) (he : Tryz.prog.underlying e = some (.int .u64)) (hce : Tryz.prog.cellsOf e = 1) (hct : Tryz.prog.cellsOf t = n)
    (hg : Tryz.prog.globalNamed "internal/strconv.uint64pow10" = some 1) (hv : W.var? Tryz.prog "internal/strconv.uint64pow10" = some cs) (hd : DataW.trod enc Tryz.prog W base sp held fuel t cs.toList = some (Rows.laid_internal_strconv_uint64pow10, q)) : Stands W (1, tabL) := by
  have ed : (Rows.laid_internal_strconv_uint64pow10 : DataW H) = Lib.tabData .u64 Lib.pow10Tab := rfl
  rw [ed] at hd
  have ec := Lib.cells_of_tab ht he hce hct hd
  obtain ⟨ty, fz, hh⟩ := var_heap hg hv
  refine ⟨_, _, _, [], hh, ?_⟩
  rw [ec]
  exact rpL_u64_mk (by unfold InK; decide)
end Go.Proofs.YtmiboaogfjgkjaaGreatDoor
