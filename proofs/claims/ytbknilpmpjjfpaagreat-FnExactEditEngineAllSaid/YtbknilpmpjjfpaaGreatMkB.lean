/- Between the trees of plain data (D) and the flat cells (L): the marks' contracts carried over. -/
import Derived.Test.YtbknilpmpjjfpaaGreatPkC
import Derived.Test.YtbknilpmpjjfpaaGreatPkD
set_option linter.unusedSimpArgs false
set_option linter.unusedVariables false
namespace Go.Proofs.YtbknilpmpjjfpaaGreat
open Go.RowKit Am
theorem slAt_fl {w : World} {es : List D} {v : Value} {F : List Nat} : SlAt w v es F ↔ Rp w (.sl (flE es)) v F := by
  unfold SlAt
  rw [rep_fl]
  simp only [fl, rpL_one]
  constructor
  · rintro ⟨u, h1, h2⟩; simp at h1; subst h1; exact h2
  · intro h; exact ⟨v, rfl, h⟩
theorem dv_agg {w : World} {d : D} {v : Value} {F : List Nat} (h : dvRel w (.agg (fl d)) v F) : ∃ cs, v = .agg cs.toArray ∧ Rep w d cs F := by
  obtain ⟨vs, h1, h2⟩ := h
  exact ⟨vs, h1, rep_fl.2 h2⟩
theorem dv_sl {w : World} {es : List D} {v : Value} {F : List Nat} (h : dvRel w (.one (.sl (flE es))) v F) : SlAt w v es F := slAt_fl.2 h
theorem dvs_two {w : World} {a b : DV} {vs : List Value} {F : List Nat} (h : dvsRel w [a, b] vs F) : ∃ u v F1 F2, vs = [u, v] ∧ dvRel w a u F1 ∧ dvRel w b v F2 := by
  simp only [dvsRel] at h
  obtain ⟨u, _, F1, _, rfl, rfl, h1, v, _, F2, _, rfl, rfl, h2, rfl, rfl⟩ := h
  exact ⟨u, v, F1, F2, rfl, h1, h2⟩
theorem dvM_int {w : World} {n : Int} {v : Value} {F : List Nat} (h : dvRel w (.one (.int .i64 n)) v F) : v = .int .i64 n := by
  simp only [dvRel, Rp] at h; exact h.1
theorem resM_int {N : Nat → Prop} {w : World} {FA : List Nat} {n : Int} (h : I64 n) : resOk true N w FA [.one (.int .i64 n)] [.int .i64 n] := by
  simp only [resOk, if_true, dvsOw, dvOw, Ow]
  exact ⟨[], ⟨_, [], [], [], rfl, rfl, ⟨rfl, rfl, inK_i64'.2 h⟩, rfl, rfl⟩, List.nodup_nil⟩
theorem held_agg {f : Nat} {d : D} {k k' : Int} (hk : I64 k') (hok : callOk Tryz.prog f = true)
    (h : ∀ w cs F, Rep w d cs F → Calls Tryz.prog f #[.agg cs.toArray, .int .i64 k] w fun e w' => e = .returned (.int .i64 k') ∧ Below w.heap.size w w') :
    Ctr Tryz.prog f [.agg (fl d), .one (.int .i64 k)] true [.one (.int .i64 k')] := by
  refine ⟨hok, fun w vs FA _ hv => ?_⟩
  obtain ⟨u, v, F1, F2, rfl, h2, h3⟩ := dvs_two hv
  obtain ⟨cs, rfl, h4⟩ := dv_agg h2
  obtain rfl := dvM_int h3
  refine (h w cs F1 h4).mono ?_
  rintro e w' ⟨rfl, hb⟩
  exact ⟨[_], rfl, resM_int hk, hb⟩
theorem held_sl {f : Nat} {es : List D} {k k' : Int} (hk : I64 k') (hok : callOk Tryz.prog f = true)
    (h : ∀ w v F, SlAt w v es F → Calls Tryz.prog f #[v, .int .i64 k] w fun e w' => e = .returned (.int .i64 k') ∧ Below w.heap.size w w') :
    Ctr Tryz.prog f [.one (.sl (flE es)), .one (.int .i64 k)] true [.one (.int .i64 k')] := by
  refine ⟨hok, fun w vs FA _ hv => ?_⟩
  obtain ⟨u, v, F1, F2, rfl, h2, h3⟩ := dvs_two hv
  obtain rfl := dvM_int h3
  refine (h w u F1 (dv_sl h2)).mono ?_
  rintro e w' ⟨rfl, hb⟩
  exact ⟨[_], rfl, resM_int hk, hb⟩
theorem Off.chg {F : List Nat} {w w' : World} (h : Off F w w') : Chg F w w' := ⟨h.os, h.tape, h.output, h.size, h.block⟩
theorem mark_agg {f : Nat} {d d' : D} {k k' : Int} (hk : I64 k') (hok : callOk Tryz.prog f = true)
    (h : ∀ w cs F, Rep w d cs F → F.Nodup → (∀ q ∈ F, Plain w q) → Calls Tryz.prog f #[.agg cs.toArray, .int .i64 k] w fun e w' => e = .returned (.int .i64 k') ∧ Rep w' d' cs F ∧ (∀ q ∈ F, Plain w' q) ∧ Off F w w') :
    MCtr Tryz.prog f (.agg (fl d)) k (.agg (fl d')) k' := by
  refine ⟨hok, fun w v F hv hn hp => ?_⟩
  obtain ⟨cs, rfl, h4⟩ := dv_agg hv
  refine (h w cs F h4 hn hp).mono ?_
  rintro e w' ⟨rfl, h5, _, h6⟩
  exact ⟨rfl, inK_i64'.2 hk, ⟨cs, rfl, rep_fl.1 h5⟩, h6.chg⟩
theorem mark_sl {f : Nat} {es es' : List D} {k k' : Int} (hk : I64 k') (hok : callOk Tryz.prog f = true)
    (h : ∀ w v F, SlAt w v es F → F.Nodup → (∀ q ∈ F, Plain w q) → Calls Tryz.prog f #[v, .int .i64 k] w fun e w' => e = .returned (.int .i64 k') ∧ SlAt w' v es' F ∧ (∀ q ∈ F, Plain w' q) ∧ Off F w w') :
    MCtr Tryz.prog f (.one (.sl (flE es))) k (.one (.sl (flE es'))) k' := by
  refine ⟨hok, fun w v F hv hn hp => ?_⟩
  refine (h w v F (dv_sl hv) hn hp).mono ?_
  rintro e w' ⟨rfl, h5, _, h6⟩
  exact ⟨rfl, inK_i64'.2 hk, slAt_fl.1 h5, h6.chg⟩
end Go.Proofs.YtbknilpmpjjfpaaGreat
