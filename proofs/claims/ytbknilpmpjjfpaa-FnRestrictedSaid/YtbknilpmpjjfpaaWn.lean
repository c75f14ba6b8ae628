/- The words by which the walks of the mirrored functions reckon. -/
import Derived.Test.YtbknilpmpjjfpaaTi
import Derived.Test.YtbknilpmpjjfpaaPkC
set_option linter.unusedSimpArgs false
set_option linter.unusedVariables false
namespace Go.Proofs.Ytbknilpmpjjfpaa
open Go.RowKit Am
namespace Am
section
variable {P : Program} {ops : Array Oper} {σ σ0 : St} {K : St → Prop} {o : Oper} {rest : List Oper} {g : Eff} {B As : List (List Nat)} {i : Nat} {es : List (Nat × Eff)} {f : Nat} {xs : List Operand}
theorem aRun_some : aRun P ops o rest σ K (some (f, xs)) = aCall P ops o rest σ K f (opds σ xs) ((opds σ xs).bind (datVs σ)) := rfl
theorem aRun_none : aRun P ops o rest σ K none = aStep P ops o rest σ K (stepE P σ o) := rfl
theorem aStep_some : aStep P ops o rest σ K (some g) = (g.side ∧ awpOps P ops rest (σ.app g) K) := rfl
theorem aStep_none : aStep P ops o rest σ K none = HBy P σ o fun g => awpOps P ops rest (σ.app g) K := rfl
theorem aNext_some : aNext P ops rest σ K (some g) = (g.side ∧ awpOps P ops rest (σ.app g) K) := rfl
theorem aNext_none : aNext P ops rest σ K none = False := rfl
theorem cRun_some : cRun P ops σ0 K B As o rest i es σ (some (f, xs)) = cCall P ops σ0 K B As o rest i es σ f (opds σ xs) ((opds σ xs).bind (datVs σ)) := rfl
theorem cRun_none : cRun P ops σ0 K B As o rest i es σ none = cNext P ops σ0 K B As rest i es (stepE P σ o) := rfl
theorem cNext_some : cNext P ops σ0 K B As rest i es (some g) = (g.side ∧ awpC P ops σ0 K B As rest (i + 1) ((i, g) :: es)) := rfl
theorem cNext_none : cNext P ops σ0 K B As rest i es none = False := rfl
theorem cGuard_some {want b : Bool} : cGuard P ops σ0 K B As o rest i es σ want (some b) = if b = want then cRun P ops σ0 K B As o rest i es σ (callOf o.op) else awpC P ops σ0 K B As rest (i + 1) ((i, ⟨True, match o.dst with | some d => [(d, .dead)] | none => [], [], []⟩) :: es) := rfl
theorem cGuard_none {want : Bool} : cGuard P ops σ0 K B As o rest i es σ want none = False := rfl
end
end Am
attribute [go_sem] keptL keptB keptE zipK ptrKS nstLoad litCut weakC St.rens undOk awpOps_nil awpOps_plain awpOps_guard aRun_some aRun_none aCall_some aCall_none aNext_some aNext_none aStep_some aStep_none aGuard_some aGuard_none callOf stepE valOp memOp opd constV constC constL constLs yld St.kill St.app lookup_cons thenK inB endQ outOk outN outB resVs resV endP endR outP outC outL outR ptrK boxK frozK renC renV St.ren ptrA ptrEff frVs frV frL frC absVs absV absL absC absE datVs datV datL datC opds num bI bSh bS inTm inV callEff impD impL impC retC ptD L.flat flatL flatE awpC_nil awpC_plain awpC_guard cRun_some cRun_none cCall_some cCall_none cNext_some cNext_none cGuard_some cGuard_none view appR pick1 TD.agg cellsV cellsE parts fillC eqC eqCs lenV nums bound srcV base St.closed okV okC setAt over_length over_map cle clesL psle vle tmLe bxLe arLe iC uC sC bC lC freshT bytesE bytesE_u srcA byE_eq
theorem mixed : Try.prog.follows .mixedOrders = true := by kernel_rfl
@[go_sem] theorem wrapIn {n : Int} (h : -9223372036854775808 ≤ n ∧ n ≤ 9223372036854775807) : IntKind.i64.wrap n = n := IntWalk.i64_in n h
@[go_sem] theorem wrapIn8 {n : Int} (h : 0 ≤ n ∧ n ≤ 255) : IntKind.u8.wrap n = n := IntWalk.u8_in n h
@[go_sem] theorem wrapInU {n : Int} (h : 0 ≤ n ∧ n ≤ 18446744073709551615) : IntKind.u64.wrap n = n := IntWalk.u64_in n h
@[go_sem] theorem set_all {α : Type} {p : α → Prop} {xs : List α} {n : Nat} {a : α} (h : ∀ z ∈ xs, p z) (ha : p a) : (∀ z ∈ xs.set n a, p z) ↔ True := ⟨fun _ => trivial, fun _ z hz => (List.mem_or_eq_of_mem_set hz).elim (h z) fun e => e ▸ ha⟩
@[go_sem] theorem take_all {α : Type} {p : α → Prop} {xs : List α} {n : Nat} (h : ∀ z ∈ xs, p z) : (∀ z ∈ xs.take n, p z) ↔ True := ⟨fun _ => trivial, fun _ z hz => h z (List.mem_of_mem_take hz)⟩
@[go_sem] theorem take_len {α β : Type} (f : α → β) (xs : List α) : (xs.map f).take xs.length = xs.map f := List.take_of_length_le (by simp)
@[go_sem] theorem drop_all {α : Type} {p : α → Prop} {xs : List α} {n : Nat} (h : ∀ z ∈ xs, p z) : (∀ z ∈ xs.drop n, p z) ↔ True := ⟨fun _ => trivial, fun _ z hz => h z (List.mem_of_mem_drop hz)⟩
@[go_sem] theorem or_all {α : Type} {p : α → Prop} {xs : List α} {b : α} (h : ∀ z ∈ xs, p z) (hb : p b) : (∀ z, z ∈ xs ∨ z = b → p z) ↔ True := ⟨fun _ => trivial, fun _ z hz => hz.elim (h z) fun e => e ▸ hb⟩
@[go_sem] theorem or_all2 {α : Type} {p : α → Prop} {xs ys : List α} (h : ∀ z ∈ xs, p z) (hb : ∀ z ∈ ys, p z) : (∀ z, z ∈ xs ∨ z ∈ ys → p z) ↔ True := ⟨fun _ => trivial, fun _ z hz => hz.elim (h z) (hb z)⟩
@[go_sem] theorem iC_lens (xs : List Int) : (∀ e ∈ xs.map iC, e.length = 1) ↔ True := by
  refine ⟨fun _ => trivial, fun _ e he => ?_⟩
  obtain ⟨x, _, rfl⟩ := List.mem_map.1 he
  rfl
@[go_sem] theorem uC_lens (xs : List Int) : (∀ e ∈ xs.map uC, e.length = 1) ↔ True := by
  refine ⟨fun _ => trivial, fun _ e he => ?_⟩
  obtain ⟨x, _, rfl⟩ := List.mem_map.1 he
  rfl
@[go_sem] theorem uC_flats (xs : List Int) : flatE (xs.map uC) = true := by
  refine List.all_eq_true.2 fun e he => ?_
  obtain ⟨x, _, rfl⟩ := List.mem_map.1 he
  rfl
@[go_sem] theorem sC_lens (xs : List ByteArray) : (∀ e ∈ xs.map sC, e.length = 1) ↔ True := by
  refine ⟨fun _ => trivial, fun _ e he => ?_⟩
  obtain ⟨x, _, rfl⟩ := List.mem_map.1 he
  rfl
@[go_sem] theorem bC_lens (xs : List Bool) : (∀ e ∈ xs.map bC, e.length = 1) ↔ True := by
  refine ⟨fun _ => trivial, fun _ e he => ?_⟩
  obtain ⟨x, _, rfl⟩ := List.mem_map.1 he
  rfl
@[go_sem] theorem lC_lens {α : Type} (c : α → List L) (xs : List (List α)) : (∀ e ∈ xs.map (lC c), e.length = 1) ↔ True := by
  refine ⟨fun _ => trivial, fun _ e he => ?_⟩
  obtain ⟨x, _, rfl⟩ := List.mem_map.1 he
  rfl
@[go_sem] theorem iC_flats (xs : List Int) : flatE (xs.map iC) = true := by
  refine List.all_eq_true.2 fun e he => ?_
  obtain ⟨x, _, rfl⟩ := List.mem_map.1 he
  rfl
@[go_sem] theorem sC_flats (xs : List ByteArray) : flatE (xs.map sC) = true := by
  refine List.all_eq_true.2 fun e he => ?_
  obtain ⟨x, _, rfl⟩ := List.mem_map.1 he
  rfl
@[go_sem] theorem bC_flats (xs : List Bool) : flatE (xs.map bC) = true := by
  refine List.all_eq_true.2 fun e he => ?_
  obtain ⟨x, _, rfl⟩ := List.mem_map.1 he
  rfl
end Go.Proofs.Ytbknilpmpjjfpaa
