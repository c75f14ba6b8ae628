/- A call that writes marks over its argument's memory, in the walk of a mirrored function; the marks' own words. Nothing of the program is used here. -/
import Derived.Test.YtbknilpmpjjfpaaGreatWn
import Derived.Test.YtbknilpmpjjfpaaGreatSx
import Derived.Test.YtbknilpmpjjfpaaGreatPkD
set_option linter.unusedSimpArgs false
set_option linter.unusedVariables false
namespace Go.Proofs.YtbknilpmpjjfpaaGreat.Am
open Go.RowKit
section
variable {P : Program} {ops : Array Oper} {post : List Oper} {σ : St} {K : St → Prop}
def WrBy (P : Program) (f : Nat) (dv : DV) (k : Int) (X : DV → Int → Prop) : Prop := ∃ d' k', MCtr P f dv k d' k' ∧ X d' k'
@[congr] theorem WrBy_congr {f : Nat} {d d' : DV} {k k' : Int} {X : DV → Int → Prop} (h : d = d') (hk : k = k') : WrBy P f d k X = WrBy P f d' k' X := by rw [h, hk]
theorem by_wr {f : Nat} {d d0 d' : DV} {k k0 k' : Int} {X : DV → Int → Prop} (h : MCtr P f d k d' k') (hd : d0 = d) (hk : k0 = k) (hx : X d' k') : WrBy P f d0 k0 X := ⟨d', k', hd ▸ hk ▸ h, hx⟩
theorem wOp_some {d f : Nat} {x : V} {k : Int} {dv : DV} {τs : List Nat} {p : Prop} : wOp P ops post σ K d f x k (some (dv, τs, p)) = (p ∧ τs.Nodup ∧ d < σ.nt ∧ WrBy P f dv k fun d' k' => chkW σ τs (newV x d') ∧ awpOps P ops post (wroteSt σ d k' (newV x d')) K) := rfl
theorem wArgs_two {d f : Nat} {x : V} {k : Int} : wArgs P ops post σ K d f (some [x, .one (.l (.int .i64 k))]) = wOp P ops post σ K d f x k (wrV σ x) := rfl
theorem wCall_call {d f : Nat} {xs : Array Operand} {ts : Array TypeId} {ty : Nat} {pos : String} {af : Array Edge} : wCall P ops σ K (⟨some d, .call { callee := .value (.func f), args := xs, argTypes := ts }, ty, pos, af, none⟩ :: post) = wArgs P ops post σ K d f (opds σ xs.toList) := rfl
end
def wr? {α : Type} (f : α → Int → α) (cn : α → Nat) (k : Int) (x : α) : Option (α × Int) := if 0 ≤ k ∧ k + cn x ≤ 1099511627776 then some (f x k, k + cn x) else none
theorem wr_spec {α : Type} {f : α → Int → α} {cn : α → Nat} {k : Int} {x : α} {y : α × Int} (h : wr? f cn k x = some y) : y.1 = f x k ∧ y.2 = k + cn x ∧ 0 ≤ k ∧ k + cn x ≤ 1099511627776 := by
  unfold wr? at h
  split at h
  · obtain rfl := Option.some.inj h; exact ⟨rfl, rfl, by assumption⟩
  · cases h
theorem wr_ok {α : Type} {f : α → Int → α} {cn : α → Nat} {k : Int} {x : α} (h : 0 ≤ k) (h1 : k + cn x ≤ 1099511627776) : wr? f cn k x = some (f x k, k + cn x) := by unfold wr?; rw [if_pos ⟨h, h1⟩]
def hd? (k : Int) (c : Nat) : Option Int := if 0 ≤ k ∧ k + c ≤ 1099511627776 then some (k + c) else none
theorem hd_spec {k : Int} {c : Nat} {z : Int} (h : hd? k c = some z) : z = k + c ∧ 0 ≤ k ∧ k + c ≤ 1099511627776 := by
  unfold hd? at h
  split at h
  · obtain rfl := Option.some.inj h; exact ⟨rfl, by assumption⟩
  · cases h
theorem hd_ok {k : Int} {c : Nat} (h : 0 ≤ k) (h1 : k + c ≤ 1099511627776) : hd? k c = some (k + c) := by unfold hd?; rw [if_pos ⟨h, h1⟩]
def allIn {α : Type} (τs : List Nat) : List (Nat × α) → Prop
  | [] => True
  | p :: ps => p.1 ∈ τs ∧ allIn τs ps
theorem allIn_nil {α : Type} (τs : List Nat) : allIn (α := α) τs [] = True := rfl
theorem allIn_cons {α : Type} (τs : List Nat) (p : Nat × α) (ps : List (Nat × α)) : allIn τs (p :: ps) = (p.1 ∈ τs ∧ allIn τs ps) := rfl
theorem allIn_iff {α : Type} (τs : List Nat) : ∀ ps : List (Nat × α), allIn τs ps ↔ ∀ p ∈ ps, p.1 ∈ τs
  | [] => by simp [allIn]
  | p :: ps => by rw [allIn_cons, allIn_iff τs ps]; simp
def chk1 (σ : St) (m : List (Nat × List (List L))) (τ : Nat) : Prop := ∃ A es, σ.ar.lookup τ = some (some A) ∧ m.lookup τ = some es ∧ A.es.length = es.length
def allC (p : Nat → Prop) : List Nat → Prop
  | [] => True
  | x :: xs => p x ∧ allC p xs
theorem allC_nil (p : Nat → Prop) : allC p [] = True := rfl
theorem allC_cons (p : Nat → Prop) (x : Nat) (xs : List Nat) : allC p (x :: xs) = (p x ∧ allC p xs) := rfl
theorem allC_iff (p : Nat → Prop) : ∀ xs : List Nat, allC p xs ↔ ∀ x ∈ xs, p x
  | [] => by simp [allC]
  | x :: xs => by rw [allC_cons, allC_iff p xs]; simp
theorem chkW_eq (σ : St) (τs : List Nat) (m : List (Nat × List (List L))) : chkW σ τs m = (allC (chk1 σ m) τs ∧ allIn τs m) := by
  rw [allC_iff, allIn_iff]; rfl
attribute [go_sem] wOp_some wArgs_two wCall_call wrV wrL wrC newV newL mkV mkC St.wrote wroteSt chkW_eq allC_nil allC_cons allIn_nil allIn_cons chk1
end Go.Proofs.YtbknilpmpjjfpaaGreat.Am
namespace Go.Proofs.YtbknilpmpjjfpaaGreat
open Go.RowKit Am
theorem cnS_leF {α : Type} {cn : α → Nat} {f : α → Nat} {C : Nat} : ∀ (xs : List α), (∀ x ∈ xs, cn x ≤ C * (1 + f x)) → cnS cn xs ≤ C * (xs.length + (xs.map f).sum)
  | [], _ => by simp [cnS]
  | x :: xs, h => by
    have h1 := h x (List.mem_cons_self ..)
    have h2 := cnS_leF xs fun y hy => h y (List.mem_cons_of_mem _ hy)
    simp only [cnS, List.length_cons, List.map_cons, List.sum_cons]
    rw [show xs.length + 1 + (f x + (xs.map f).sum) = (1 + f x) + (xs.length + (xs.map f).sum) from by omega, Nat.mul_add]
    omega
end Go.Proofs.YtbknilpmpjjfpaaGreat
