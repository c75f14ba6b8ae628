/-
  NARROWER THAN 'FOR EVERY INPUT', by the rows' own cells (each row's printed sentence says how): FnExactEditEngine: loops · FnExactEditEngineAll: loops.
  DERIVED. THE GIVEN ROWS OF THIS SEAT. 2 by the template 'for every input the law returns true; each argument reads behind the call as it read before'; 0 by the template 'total and deterministic' (their statements: YtbknilpmpjjfpaaGreatTotals.lean).
  GIVEN WITH THE SEED: the statements are not yours to turn. If you find one false, say at which input.
  Laid BY PROGRAM, IN A SANDBOX (cutbox-rows.mjs): the forced cells as the released guide's own fill.sh prints them over the translation 44d37c263c746006… (all of the seat's roots in one cut). By AI agents, Wed Nov 11 2026. No macro, syntax, notation, axiom, sorry.
-/
import Derived.Test.YtbknilpmpjjfpaaGreatChecked
import GoSem.Claim
import GoSem.ClaimJoined
import GoSem.ClaimMapViews
import Derived.JoinedTies
import Derived.KernelRfl
namespace Go.Proofs.YtbknilpmpjjfpaaGreat
/- THE CELL 'sum', in the pinned program and in every row, IS THE sha256 OF THE DUMP (.gsa) THAT YtbknilpmpjjfpaaGreatProg.lean LOADS. Nothing in Lean hashes anything: it is a label: what it is worth is what the hold of that sum in a sandbox is worth. -/
noncomputable def Tryz.pinned : Pinned := { name := "ytbknilpmpjjfpaagreat", sum := "44d37c263c74600609259d23ed9dd5e73f55adf471baa4ab9e34544a17e68afc", checked := Tryz.checked }
namespace Rows
def none {H : Type} : Left H := { results := [], args := [] }

/-- 'laws.FnExactEditEngine': WHATEVER THE INPUT: true; the input reads as it did. -/
def fnExactEditEngineSpec : ChangeSpec := { name := "fnExactEditEngine", fn := fun _ => fun
  | [d1, d2] => { results := [.lit (.bool true)], args := [d1, d2] }
  | _ => none }
def fnExactEditEngineRow : OpenClaim := { program := "ytbknilpmpjjfpaagreat", sum := "44d37c263c74600609259d23ed9dd5e73f55adf471baa4ab9e34544a17e68afc", func := "loop.example/g00510/laws.FnExactEditEngine", spec := "fnExactEditEngine", recurses := true, loops := true, apart := false }
def FnExactEditEngineSaid : Prop := fnExactEditEngineRow.holds Tryz.pinned (OpenSpec.ofChange fnExactEditEngineSpec)

/-- ITS FALSE NEIGHBOUR: 'it returns false'. Refute it at one input. -/
def fnExactEditEngineWrong : ChangeSpec := { name := "fnExactEditEngine", fn := fun _ => fun
  | [d1, d2] => { results := [.lit (.bool false)], args := [d1, d2] }
  | _ => none }
def FnExactEditEngineWrongFalsely : Prop := fnExactEditEngineRow.holds Tryz.pinned (OpenSpec.ofChange fnExactEditEngineWrong)

/-- 'laws.FnExactEditEngineAll': WHATEVER THE INPUT: true; the input reads as it did. -/
def fnExactEditEngineAllSpec : ChangeSpec := { name := "fnExactEditEngineAll", fn := fun _ => fun
  | [d1, d2] => { results := [.lit (.bool true)], args := [d1, d2] }
  | _ => none }
def fnExactEditEngineAllRow : OpenClaim := { program := "ytbknilpmpjjfpaagreat", sum := "44d37c263c74600609259d23ed9dd5e73f55adf471baa4ab9e34544a17e68afc", func := "loop.example/g00510/laws.FnExactEditEngineAll", spec := "fnExactEditEngineAll", recurses := true, loops := true, apart := false }
def FnExactEditEngineAllSaid : Prop := fnExactEditEngineAllRow.holds Tryz.pinned (OpenSpec.ofChange fnExactEditEngineAllSpec)

/-- ITS FALSE NEIGHBOUR: 'it returns false'. Refute it at one input. -/
def fnExactEditEngineAllWrong : ChangeSpec := { name := "fnExactEditEngineAll", fn := fun _ => fun
  | [d1, d2] => { results := [.lit (.bool false)], args := [d1, d2] }
  | _ => none }
def FnExactEditEngineAllWrongFalsely : Prop := fnExactEditEngineAllRow.holds Tryz.pinned (OpenSpec.ofChange fnExactEditEngineAllWrong)

/- THE SECOND FORM. 'bulk': how many values and letters a reading holds, each counted each time it is reached (what is shared counts as often as it is met; a slice's spare places count too). A statement '..UptoSaid' is the law's where the arguments, and the package variables that the reading takes, are together of bulk at most 1048576: NARROWER than '..Said'. Prove '..Said' where nothing that the law and all that it calls make is longer than what came in: it says more and counts as full. Else prove '..UptoSaid'. A law counts once. -/
mutual
def uptoBulk {H : Type} : DataW H → Nat
  | .lit (.string bytes) => bytes.length + 1
  | .lit _ => 1
  | .nil => 1
  | .ptr d => uptoBulk d + 1
  | .slice elems spare => uptoBulkAll elems + uptoBulkAll spare + 1
  | .agg parts => uptoBulkAll parts + 1
  | .iface _ d => uptoBulk d + 1
  | .map entries => uptoBulkEntries entries + 1
  | .held _ => 1
def uptoBulkAll {H : Type} : List (DataW H) → Nat
  | [] => 0
  | d :: r => uptoBulk d + uptoBulkAll r
def uptoBulkEntries {H : Type} : List (Lit × DataW H) → Nat
  | [] => 0
  | x :: r => uptoBulkEntry x + uptoBulkEntries r
def uptoBulkEntry {H : Type} : Lit × DataW H → Nat
  | (.string bytes, d) => bytes.length + uptoBulk d + 1
  | (_, d) => uptoBulk d + 1
 end
def uptoSmall : (H : Type) → List (DataW H) → Bool := fun _ ds => decide (uptoBulkAll ds ≤ 1048576)
def OpenSpec.upto (s : _root_.Go.ChangeSpec) : _root_.Go.OpenSpec := { _root_.Go.OpenSpec.ofChange s with cond := some uptoSmall }

/-- 'laws.FnExactEditEngine', WHERE WHAT IT READS IS OF BULK AT MOST 1048576: true; the input reads as it did. -/
def fnExactEditEngineUptoRow : OpenClaim := { program := "ytbknilpmpjjfpaagreat", sum := "44d37c263c74600609259d23ed9dd5e73f55adf471baa4ab9e34544a17e68afc", func := "loop.example/g00510/laws.FnExactEditEngine", spec := "fnExactEditEngine", recurses := true, loops := true, apart := false, narrowed := true }
def FnExactEditEngineUptoSaid : Prop := fnExactEditEngineUptoRow.holds Tryz.pinned (OpenSpec.upto fnExactEditEngineSpec)

/-- 'laws.FnExactEditEngineAll', WHERE WHAT IT READS IS OF BULK AT MOST 1048576: true; the input reads as it did. -/
def fnExactEditEngineAllUptoRow : OpenClaim := { program := "ytbknilpmpjjfpaagreat", sum := "44d37c263c74600609259d23ed9dd5e73f55adf471baa4ab9e34544a17e68afc", func := "loop.example/g00510/laws.FnExactEditEngineAll", spec := "fnExactEditEngineAll", recurses := true, loops := true, apart := false, narrowed := true }
def FnExactEditEngineAllUptoSaid : Prop := fnExactEditEngineAllUptoRow.holds Tryz.pinned (OpenSpec.upto fnExactEditEngineAllSpec)

end Rows
end Go.Proofs.YtbknilpmpjjfpaaGreat
