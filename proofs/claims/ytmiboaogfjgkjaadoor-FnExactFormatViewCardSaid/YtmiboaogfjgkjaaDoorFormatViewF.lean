/- FnExactFormatView: for all arguments that can be read the law returns true, and each argument reads afterwards as it read before. Conditions: none. Written by a program of mine. -/
import Derived.Test.YtmiboaogfjgkjaaDoorPkC
import Derived.Test.YtmiboaogfjgkjaaDoorLaFnExactFormatView
import Derived.Test.YtmiboaogfjgkjaaDoorFormatViewM
import Derived.Test.YtmiboaogfjgkjaaDoorCards
import Derived.Test.YtmiboaogfjgkjaaDoorTie
import Derived.Test.YtmiboaogfjgkjaaDoorLc
import Derived.ProofKit
import Derived.LaidMore
import Derived.OpenShut
import Derived.Stop.Joined
import Derived.SevenTiedAt
import Derived.Lib.LaidTab
import Derived.ChangeSame
import Derived.ChangeVars
import Derived.JoinedOf
import Derived.LaidLaws
set_option linter.unusedSimpArgs false
set_option linter.unusedVariables false
namespace Go.Proofs.YtmiboaogfjgkjaaDoor.fnExactFormatView
open Go.ChangeShapes Go.WideShapes Go.ChangeAt Go.RowKit Go.Deep Am
theorem own : ownKnob Tryd.prog.godebug = none := by kernel_rfl
theorem laidOut : laidOutB Tryd.prog = true := by kernel_rfl
theorem types_ok : [22, 52, 3, 4, 9].all (okTy Tryd.prog [22, 52, 3, 4, 9]) = true := by kernel_rfl
theorem has_52 {n : Nat} {d : D} (h : has Tryd.prog n 52 d) : ∃ x : TLine, fl d = x.c := by
  cases n with
  | zero => exact h.elim
  | succ n =>
    simp only [has, Tryd.underlying52] at h
    obtain ⟨ds, rfl, hl, hf⟩ := h
    match ds, hl with
    | [x0, x1, x2], _ =>
      obtain ⟨y0, e0⟩ := has_int Tryd.underlying3 (hf 0 _ x0 rfl rfl)
      obtain ⟨y1, e1⟩ := has_bool Tryd.underlying4 (hf 1 _ x1 rfl rfl)
      obtain ⟨y2, e2⟩ := has_str Tryd.underlying9 (hf 2 _ x2 rfl rfl)
      exact ⟨⟨y0, y1, y2⟩, by simp only [fl, flL, e0, e1, e2, TLine.c_eq]; try rfl⟩
theorem has_22 {n : Nat} {d : D} (h : has Tryd.prog n 22 d) : ∃ x : List TLine, fl d = [.sl (x.map TLine.c)] :=
  has_slice Tryd.underlying22 (fun m _ x h => has_52 h) h
theorem door_met (os : Os) (args : Array Value) : laidMetH Tryd.prog Rows.fnExactFormatViewRow.laid ((World.doorLaid Tryd.prog 2000 os).forCall (fun _ _ => 0) ⟨#[], args, []⟩).memory :=
  laidMetH_of_parts3 (fuel := 8) (laidMet_of_run' 8 (by kernel_rfl) (by kernel_rfl)) (by kernel_rfl) (by kernel_rfl)
theorem glb_of {W : World} (h : laidMetH Tryd.prog Rows.fnExactFormatViewRow.laid W) : ∃ G, Glb W G := by
  rw [MakeChecks.laidMetH_plain _ _ _ (by kernel_rfl)] at h
  obtain ⟨ps, ⟨g0, t0, cs0, f0, p0, q0, hg0, ht0, hv0, hd0, ⟨g1, t1, cs1, f1, p1, q1, hg1, ht1, hv1, hd1, ⟨g2, t2, cs2, f2, p2, q2, hg2, ht2, hv2, hd2, _, _⟩, _⟩, _⟩, _, _⟩ := h
  have eg : Tryd.prog.globalNamed "internal/strconv.uint64pow10" = some 1 := by kernel_rfl
  obtain rfl := Option.some.inj (eg.symm.trans hg2)
  have et : (Tryd.prog.globals[1]?).map (·.type) = some 118 := by kernel_rfl
  obtain rfl := Option.some.inj (et.symm.trans ht2)
  exact glb_one Tryd.underlying118 Tryd.underlying109 (by kernel_rfl) (by kernel_rfl) eg hv2 hd2
set_option maxRecDepth 100000 in
theorem lifted (os : Os) (started : os.Started) (H : Type) (enc : TypeId × Value → H) :
    ReturnsInHanded {} Tryd.checked os 3 .any (fun w args => (Rows.fnExactFormatViewSpec.pre enc Tryd.prog Tryd.f3 Rows.fnExactFormatViewRow.domain false w args ∧ laidMetH Tryd.prog Rows.fnExactFormatViewRow.laid w) ∧ sizedMet enc Tryd.prog Tryd.f3 (OpenSpec.ofChange Rows.fnExactFormatViewSpec) false w args) (Rows.fnExactFormatViewSpec.post enc Tryd.prog Tryd.f3 false true false false) := by
  refine returnsInHanded_of_change_and (C := Tryd.checked) (X := fun w _ => laidMetH Tryd.prog Rows.fnExactFormatViewRow.laid w) (fun _ _ _ hh h => h.of_heap hh) own started (by kernel_rfl) Tryd.func3
    (ChangeSpec.witness_shaped (enc := enc) (C := Tryd.checked) (os := os) (X := fun w _ => laidMetH Tryd.prog Rows.fnExactFormatViewRow.laid w) false (World.doorLaid Tryd.prog 2000 os) #[.slice none 0 0] 8 rfl (World.shaped_of_RefB (by kernel_rfl) (by kernel_rfl)) (by kernel_rfl) (by kernel_rfl) (by kernel_rfl) (door_met os _)) ?_
  intro W base args ds gs before hval0 hW hcnd _ hL _
  have hglb := glb_of hL
  have hW' := hW
  obtain ⟨p, q, hA0, hV, rfl, hfz, hnd⟩ := hW
  have hA : DataW.TrodAll enc Tryd.prog W 0 (fun _ => true) true Tryd.f3.params.toList args.toList ds p := hA0
  have hval : ∀ (j : Nat) t v, Tryd.f3.params[j]? = some t → args[j]? = some v → Value.okWide Tryd.prog W .any base t v := hval0
  rw [Tryd.params3] at hA hval
  obtain ⟨v0, vs0, d0, ds0, p0, q0, hargs, rfl, rfl, h0, r0⟩ := trodAll_cons hA
  obtain ⟨rfl, rfl, rfl⟩ := trodAll_nil r0
  obtain rfl : args = #[v0] := by cases args; simp_all
  obtain ⟨rfl, rfl⟩ := trodVars_none hV
  have lt0 : ∀ x ∈ p0, x.block < W.heap.size := by obtain ⟨m, hm⟩ := h0; exact DataW.trod_lt m _ _ _ hm
  obtain ⟨a0, len0, cap0, rfl⟩ := okWide_slice Tryd.underlying22 (hval 0 _ v0 rfl rfl)
  obtain ⟨x0, F0, w0⟩ : ∃ (x : List TLine) (F : List Nat), RpL W [.sl (x.map TLine.c)] [.slice a0 len0 cap0] F := by
    obtain ⟨fuel, hf⟩ := h0
    obtain ⟨d, F, k1, k2⟩ := open_plain _ types_ok fuel _ _ _ (by simp) hf
    obtain ⟨x, e⟩ := has_22 k2
    exact ⟨x, F, by rw [← e]; exact rep_fl.1 k1⟩
  obtain ⟨u0, k0⟩ := dv_of_one w0
  clear hA0 hval0
  obtain ⟨k, hk⟩ := FnExactFormatView_law x0 k0
  refine (law_true (w_FnExactFormatView_ctr k x0 true hk) hglb (dvs_cons u0 dvs_nil)).mono fun e W' ⟨he, bel⟩ => ?_
  subst he
  exact ⟨_, rfl, _, _, _, [], _, [], hW', trodAll_mk1 (shut_bool Tryd.underlying4 _), (trodAll_cons_mk (Below.trod laidOut (by kernel_rfl) (of_decide_eq_true (by kernel_rfl)) h0 bel lt0) trodAll_mk0), rfl, bel.frame _, fun h => by cases h⟩
theorem holds : Rows.FnExactFormatViewSaid :=
  OpenClaim.holds_of_wide 3 Tryd.f3 rfl rfl rfl rfl rfl rfl rfl ⟨rfl, rfl, rfl, rfl, rfl⟩ rfl rfl rfl rfl rfl (by kernel_rfl) Tryd.func3 (by kernel_rfl)
    (of_decide_eq_true (by kernel_rfl)) (by unfold Func.isWrapper; first | (rw [if_pos (by decide +kernel)]; kernel_rfl) | (rw [if_neg (by decide +kernel)]; exact ⟨rfl, rfl⟩))
    (fun os started H enc _ => lifted os started H enc)
theorem proved : Rows.FnExactFormatViewCardSaid :=
  Claim7.holds_tied_plain_at .later [] [.data, .data, .data] true (true, "e9a33f4f7e1085824c66627809b6e86e469c30e757cb372a09af7a725fcd87e6") false
    holds (fun _ h => by cases h) (by kernel_rfl) (fun _ h => by cases h) fnExactFormatView_row_tie rfl ⟨rfl, rfl⟩ (by kernel_rfl) rfl
    (fun f fn hf hfn => by
      obtain rfl : f = 3 := Option.some.inj ((show Tryd.prog.funcNamed "loop.example/g00510/laws.FnExactFormatView" = some 3 by kernel_rfl).symm.trans hf) |>.symm
      obtain rfl : fn = Tryd.f3 := (Option.some.inj (Tryd.func3.symm.trans hfn)).symm
      exact ⟨by kernel_rfl, fun j t ht => by
        rw [Tryd.params3] at ht
        have hm : t ∈ [22] := by simpa using Array.mem_of_getElem? ht
        have hall : ([22].all fun u => !Tryd.prog.wantsStandIn u) = true := by kernel_rfl
        exact (show Tryd.prog.wantsStandIn t = false by simpa using List.all_eq_true.1 hall t hm)⟩)
    (by kernel_rfl)
end Go.Proofs.YtmiboaogfjgkjaaDoor.fnExactFormatView
