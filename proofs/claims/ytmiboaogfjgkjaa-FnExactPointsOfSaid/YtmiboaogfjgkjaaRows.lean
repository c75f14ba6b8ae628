/-
  NARROWER THAN 'FOR EVERY INPUT', by the rows' own cells (each row's printed sentence says how): FnExactEntryIndex: loops · FnExactHeldSize: loops · FnExactRowOrigins: loops · FnExactBarsOf: loops · FnExactPointsOf: loops.
  DERIVED. THE GIVEN ROWS OF THIS SEAT. 8 by the template 'for every input the law returns true; each argument reads behind the call as it read before'; 0 by the template 'total and deterministic' (their statements: YtmiboaogfjgkjaaTotals.lean).
  GIVEN WITH THE SEED: the statements are not yours to turn. If you find one false, say at which input.
  Laid BY PROGRAM, IN A SANDBOX (cutbox-rows.mjs): the forced cells as the released guide's own fill.sh prints them over the translation f2682916ee110021… (all of the seat's roots in one cut). By AI agents, Wed Nov 11 2026. No macro, syntax, notation, axiom, sorry.
-/
import Derived.Test.YtmiboaogfjgkjaaChecked
import GoSem.Claim
import GoSem.ClaimJoined
import GoSem.ClaimMapViews
import Derived.JoinedTies
import Derived.KernelRfl
namespace Go.Proofs.Ytmiboaogfjgkjaa
/- THE CELL 'sum', in the pinned program and in every row, IS THE sha256 OF THE DUMP (.gsa) THAT YtmiboaogfjgkjaaProg.lean LOADS. Nothing in Lean hashes anything: it is a label: what it is worth is what the hold of that sum in a sandbox is worth. -/
noncomputable def Try.pinned : Pinned := { name := "ytmiboaogfjgkjaa", sum := "f2682916ee110021ee982352877eedb0304d1ef8bf0ad2178f16e5e2ad48d348", checked := Try.checked }
namespace Rows
def none {H : Type} : Left H := { results := [], args := [] }

/-- 'laws.FnExactEntryIndex': WHATEVER THE INPUT: true; the input reads as it did. -/
def fnExactEntryIndexSpec : ChangeSpec := { name := "fnExactEntryIndex", fn := fun _ => fun
  | [d1, d2] => { results := [.lit (.bool true)], args := [d1, d2] }
  | _ => none }
def fnExactEntryIndexRow : OpenClaim := { program := "ytmiboaogfjgkjaa", sum := "f2682916ee110021ee982352877eedb0304d1ef8bf0ad2178f16e5e2ad48d348", func := "loop.example/g00510/laws.FnExactEntryIndex", spec := "fnExactEntryIndex", recurses := true, loops := true, apart := false }
def FnExactEntryIndexSaid : Prop := fnExactEntryIndexRow.holds Try.pinned (OpenSpec.ofChange fnExactEntryIndexSpec)

/-- ITS FALSE NEIGHBOUR: 'it returns false'. Refute it at one input. -/
def fnExactEntryIndexWrong : ChangeSpec := { name := "fnExactEntryIndex", fn := fun _ => fun
  | [d1, d2] => { results := [.lit (.bool false)], args := [d1, d2] }
  | _ => none }
def FnExactEntryIndexWrongFalsely : Prop := fnExactEntryIndexRow.holds Try.pinned (OpenSpec.ofChange fnExactEntryIndexWrong)

/-- 'laws.FnExactHeldSize': WHATEVER THE INPUT: true; the input reads as it did. -/
def fnExactHeldSizeSpec : ChangeSpec := { name := "fnExactHeldSize", fn := fun _ => fun
  | [d] => { results := [.lit (.bool true)], args := [d] }
  | _ => none }
def fnExactHeldSizeRow : OpenClaim := { program := "ytmiboaogfjgkjaa", sum := "f2682916ee110021ee982352877eedb0304d1ef8bf0ad2178f16e5e2ad48d348", func := "loop.example/g00510/laws.FnExactHeldSize", spec := "fnExactHeldSize", recurses := true, loops := true, apart := false }
def FnExactHeldSizeSaid : Prop := fnExactHeldSizeRow.holds Try.pinned (OpenSpec.ofChange fnExactHeldSizeSpec)

/-- ITS FALSE NEIGHBOUR: 'it returns false'. Refute it at one input. -/
def fnExactHeldSizeWrong : ChangeSpec := { name := "fnExactHeldSize", fn := fun _ => fun
  | [d] => { results := [.lit (.bool false)], args := [d] }
  | _ => none }
def FnExactHeldSizeWrongFalsely : Prop := fnExactHeldSizeRow.holds Try.pinned (OpenSpec.ofChange fnExactHeldSizeWrong)

/-- 'laws.FnExactRowOrigins': WHATEVER THE INPUT: true; the input reads as it did. -/
def fnExactRowOriginsSpec : ChangeSpec := { name := "fnExactRowOrigins", fn := fun _ => fun
  | [d1, d2, d3, d4] => { results := [.lit (.bool true)], args := [d1, d2, d3, d4] }
  | _ => none }
def fnExactRowOriginsRow : OpenClaim := { program := "ytmiboaogfjgkjaa", sum := "f2682916ee110021ee982352877eedb0304d1ef8bf0ad2178f16e5e2ad48d348", func := "loop.example/g00510/laws.FnExactRowOrigins", spec := "fnExactRowOrigins", recurses := true, loops := true, apart := false }
def FnExactRowOriginsSaid : Prop := fnExactRowOriginsRow.holds Try.pinned (OpenSpec.ofChange fnExactRowOriginsSpec)

/-- ITS FALSE NEIGHBOUR: 'it returns false'. Refute it at one input. -/
def fnExactRowOriginsWrong : ChangeSpec := { name := "fnExactRowOrigins", fn := fun _ => fun
  | [d1, d2, d3, d4] => { results := [.lit (.bool false)], args := [d1, d2, d3, d4] }
  | _ => none }
def FnExactRowOriginsWrongFalsely : Prop := fnExactRowOriginsRow.holds Try.pinned (OpenSpec.ofChange fnExactRowOriginsWrong)

/-- 'laws.FnExactChangedCells': WHATEVER THE INPUT: true; the input reads as it did. -/
def fnExactChangedCellsSpec : ChangeSpec := { name := "fnExactChangedCells", fn := fun _ => fun
  | [d1, d2] => { results := [.lit (.bool true)], args := [d1, d2] }
  | _ => none }
def fnExactChangedCellsRow : OpenClaim := { program := "ytmiboaogfjgkjaa", sum := "f2682916ee110021ee982352877eedb0304d1ef8bf0ad2178f16e5e2ad48d348", func := "loop.example/g00510/laws.FnExactChangedCells", spec := "fnExactChangedCells", apart := false }
def FnExactChangedCellsSaid : Prop := fnExactChangedCellsRow.holds Try.pinned (OpenSpec.ofChange fnExactChangedCellsSpec)

/-- ITS FALSE NEIGHBOUR: 'it returns false'. Refute it at one input. -/
def fnExactChangedCellsWrong : ChangeSpec := { name := "fnExactChangedCells", fn := fun _ => fun
  | [d1, d2] => { results := [.lit (.bool false)], args := [d1, d2] }
  | _ => none }
def FnExactChangedCellsWrongFalsely : Prop := fnExactChangedCellsRow.holds Try.pinned (OpenSpec.ofChange fnExactChangedCellsWrong)

/-- 'laws.FnExactApplyDiff': WHATEVER THE INPUT: true; the input reads as it did. -/
def fnExactApplyDiffSpec : ChangeSpec := { name := "fnExactApplyDiff", fn := fun _ => fun
  | [d1, d2] => { results := [.lit (.bool true)], args := [d1, d2] }
  | _ => none }
def fnExactApplyDiffRow : OpenClaim := { program := "ytmiboaogfjgkjaa", sum := "f2682916ee110021ee982352877eedb0304d1ef8bf0ad2178f16e5e2ad48d348", func := "loop.example/g00510/laws.FnExactApplyDiff", spec := "fnExactApplyDiff", apart := false }
def FnExactApplyDiffSaid : Prop := fnExactApplyDiffRow.holds Try.pinned (OpenSpec.ofChange fnExactApplyDiffSpec)

/-- ITS FALSE NEIGHBOUR: 'it returns false'. Refute it at one input. -/
def fnExactApplyDiffWrong : ChangeSpec := { name := "fnExactApplyDiff", fn := fun _ => fun
  | [d1, d2] => { results := [.lit (.bool false)], args := [d1, d2] }
  | _ => none }
def FnExactApplyDiffWrongFalsely : Prop := fnExactApplyDiffRow.holds Try.pinned (OpenSpec.ofChange fnExactApplyDiffWrong)

/-- 'laws.FnExactNewEngine': WHATEVER THE INPUT: true; the input reads as it did. -/
def fnExactNewEngineSpec : ChangeSpec := { name := "fnExactNewEngine", fn := fun _ => fun
  | [d1, d2] => { results := [.lit (.bool true)], args := [d1, d2] }
  | _ => none }
def fnExactNewEngineRow : OpenClaim := { program := "ytmiboaogfjgkjaa", sum := "f2682916ee110021ee982352877eedb0304d1ef8bf0ad2178f16e5e2ad48d348", func := "loop.example/g00510/laws.FnExactNewEngine", spec := "fnExactNewEngine", recurses := true, apart := false }
def FnExactNewEngineSaid : Prop := fnExactNewEngineRow.holds Try.pinned (OpenSpec.ofChange fnExactNewEngineSpec)

/-- ITS FALSE NEIGHBOUR: 'it returns false'. Refute it at one input. -/
def fnExactNewEngineWrong : ChangeSpec := { name := "fnExactNewEngine", fn := fun _ => fun
  | [d1, d2] => { results := [.lit (.bool false)], args := [d1, d2] }
  | _ => none }
def FnExactNewEngineWrongFalsely : Prop := fnExactNewEngineRow.holds Try.pinned (OpenSpec.ofChange fnExactNewEngineWrong)

/-- 'laws.FnExactBarsOf': WHATEVER THE INPUT: true; the input reads as it did. -/
def fnExactBarsOfSpec : ChangeSpec := { name := "fnExactBarsOf", fn := fun _ => fun
  | [d1, d2, d3] => { results := [.lit (.bool true)], args := [d1, d2, d3] }
  | _ => none }
def fnExactBarsOfRow : OpenClaim := { program := "ytmiboaogfjgkjaa", sum := "f2682916ee110021ee982352877eedb0304d1ef8bf0ad2178f16e5e2ad48d348", func := "loop.example/g00510/laws.FnExactBarsOf", spec := "fnExactBarsOf", recurses := true, loops := true, apart := false }
def FnExactBarsOfSaid : Prop := fnExactBarsOfRow.holds Try.pinned (OpenSpec.ofChange fnExactBarsOfSpec)

/-- ITS FALSE NEIGHBOUR: 'it returns false'. Refute it at one input. -/
def fnExactBarsOfWrong : ChangeSpec := { name := "fnExactBarsOf", fn := fun _ => fun
  | [d1, d2, d3] => { results := [.lit (.bool false)], args := [d1, d2, d3] }
  | _ => none }
def FnExactBarsOfWrongFalsely : Prop := fnExactBarsOfRow.holds Try.pinned (OpenSpec.ofChange fnExactBarsOfWrong)

/-- 'laws.FnExactPointsOf': WHATEVER THE INPUT: true; the input reads as it did. -/
def fnExactPointsOfSpec : ChangeSpec := { name := "fnExactPointsOf", fn := fun _ => fun
  | [d1, d2, d3, d4, d5] => { results := [.lit (.bool true)], args := [d1, d2, d3, d4, d5] }
  | _ => none }
def fnExactPointsOfRow : OpenClaim := { program := "ytmiboaogfjgkjaa", sum := "f2682916ee110021ee982352877eedb0304d1ef8bf0ad2178f16e5e2ad48d348", func := "loop.example/g00510/laws.FnExactPointsOf", spec := "fnExactPointsOf", recurses := true, loops := true, apart := false }
def FnExactPointsOfSaid : Prop := fnExactPointsOfRow.holds Try.pinned (OpenSpec.ofChange fnExactPointsOfSpec)

/-- ITS FALSE NEIGHBOUR: 'it returns false'. Refute it at one input. -/
def fnExactPointsOfWrong : ChangeSpec := { name := "fnExactPointsOf", fn := fun _ => fun
  | [d1, d2, d3, d4, d5] => { results := [.lit (.bool false)], args := [d1, d2, d3, d4, d5] }
  | _ => none }
def FnExactPointsOfWrongFalsely : Prop := fnExactPointsOfRow.holds Try.pinned (OpenSpec.ofChange fnExactPointsOfWrong)

/- THE SECOND FORM. 'bulk': how many values and letters a reading holds, each counted each time it is reached (what is shared counts as often as it is met; a slice's spare places count too). A statement '..UptoSaid' is the law's where the arguments, and the package variables that the reading takes, are together of bulk at most 1048576: NARROWER than '..Said'. Prove '..Said' where nothing that the law and all that it calls make is longer than what came in: it says more and counts as full. Else prove '..UptoSaid'. A law counts once. -/
mutual
def uptoBulk {H : Type} : DataW H → Nat
  | .lit (.string bytes) => bytes.length + 1
  | .lit _ => 1
  | .nil => 1
  | .ptr d => uptoBulk d + 1
  | .slice elems spare => uptoBulkAll elems + uptoBulkAll spare + 1
  | .agg parts => uptoBulkAll parts + 1
  | .iface _ d => uptoBulk d + 1
  | .map entries => uptoBulkEntries entries + 1
  | .held _ => 1
def uptoBulkAll {H : Type} : List (DataW H) → Nat
  | [] => 0
  | d :: r => uptoBulk d + uptoBulkAll r
def uptoBulkEntries {H : Type} : List (Lit × DataW H) → Nat
  | [] => 0
  | x :: r => uptoBulkEntry x + uptoBulkEntries r
def uptoBulkEntry {H : Type} : Lit × DataW H → Nat
  | (.string bytes, d) => bytes.length + uptoBulk d + 1
  | (_, d) => uptoBulk d + 1
 end
def uptoSmall : (H : Type) → List (DataW H) → Bool := fun _ ds => decide (uptoBulkAll ds ≤ 1048576)
def OpenSpec.upto (s : _root_.Go.ChangeSpec) : _root_.Go.OpenSpec := { _root_.Go.OpenSpec.ofChange s with cond := some uptoSmall }

/-- 'laws.FnExactEntryIndex', WHERE WHAT IT READS IS OF BULK AT MOST 1048576: true; the input reads as it did. -/
def fnExactEntryIndexUptoRow : OpenClaim := { program := "ytmiboaogfjgkjaa", sum := "f2682916ee110021ee982352877eedb0304d1ef8bf0ad2178f16e5e2ad48d348", func := "loop.example/g00510/laws.FnExactEntryIndex", spec := "fnExactEntryIndex", recurses := true, loops := true, apart := false, narrowed := true }
def FnExactEntryIndexUptoSaid : Prop := fnExactEntryIndexUptoRow.holds Try.pinned (OpenSpec.upto fnExactEntryIndexSpec)

/-- 'laws.FnExactHeldSize', WHERE WHAT IT READS IS OF BULK AT MOST 1048576: true; the input reads as it did. -/
def fnExactHeldSizeUptoRow : OpenClaim := { program := "ytmiboaogfjgkjaa", sum := "f2682916ee110021ee982352877eedb0304d1ef8bf0ad2178f16e5e2ad48d348", func := "loop.example/g00510/laws.FnExactHeldSize", spec := "fnExactHeldSize", recurses := true, loops := true, apart := false, narrowed := true }
def FnExactHeldSizeUptoSaid : Prop := fnExactHeldSizeUptoRow.holds Try.pinned (OpenSpec.upto fnExactHeldSizeSpec)

/-- 'laws.FnExactRowOrigins', WHERE WHAT IT READS IS OF BULK AT MOST 1048576: true; the input reads as it did. -/
def fnExactRowOriginsUptoRow : OpenClaim := { program := "ytmiboaogfjgkjaa", sum := "f2682916ee110021ee982352877eedb0304d1ef8bf0ad2178f16e5e2ad48d348", func := "loop.example/g00510/laws.FnExactRowOrigins", spec := "fnExactRowOrigins", recurses := true, loops := true, apart := false, narrowed := true }
def FnExactRowOriginsUptoSaid : Prop := fnExactRowOriginsUptoRow.holds Try.pinned (OpenSpec.upto fnExactRowOriginsSpec)

/-- 'laws.FnExactChangedCells', WHERE WHAT IT READS IS OF BULK AT MOST 1048576: true; the input reads as it did. -/
def fnExactChangedCellsUptoRow : OpenClaim := { program := "ytmiboaogfjgkjaa", sum := "f2682916ee110021ee982352877eedb0304d1ef8bf0ad2178f16e5e2ad48d348", func := "loop.example/g00510/laws.FnExactChangedCells", spec := "fnExactChangedCells", apart := false, narrowed := true }
def FnExactChangedCellsUptoSaid : Prop := fnExactChangedCellsUptoRow.holds Try.pinned (OpenSpec.upto fnExactChangedCellsSpec)

/-- 'laws.FnExactApplyDiff', WHERE WHAT IT READS IS OF BULK AT MOST 1048576: true; the input reads as it did. -/
def fnExactApplyDiffUptoRow : OpenClaim := { program := "ytmiboaogfjgkjaa", sum := "f2682916ee110021ee982352877eedb0304d1ef8bf0ad2178f16e5e2ad48d348", func := "loop.example/g00510/laws.FnExactApplyDiff", spec := "fnExactApplyDiff", apart := false, narrowed := true }
def FnExactApplyDiffUptoSaid : Prop := fnExactApplyDiffUptoRow.holds Try.pinned (OpenSpec.upto fnExactApplyDiffSpec)

/-- 'laws.FnExactNewEngine', WHERE WHAT IT READS IS OF BULK AT MOST 1048576: true; the input reads as it did. -/
def fnExactNewEngineUptoRow : OpenClaim := { program := "ytmiboaogfjgkjaa", sum := "f2682916ee110021ee982352877eedb0304d1ef8bf0ad2178f16e5e2ad48d348", func := "loop.example/g00510/laws.FnExactNewEngine", spec := "fnExactNewEngine", recurses := true, apart := false, narrowed := true }
def FnExactNewEngineUptoSaid : Prop := fnExactNewEngineUptoRow.holds Try.pinned (OpenSpec.upto fnExactNewEngineSpec)

/-- 'laws.FnExactBarsOf', WHERE WHAT IT READS IS OF BULK AT MOST 1048576: true; the input reads as it did. -/
def fnExactBarsOfUptoRow : OpenClaim := { program := "ytmiboaogfjgkjaa", sum := "f2682916ee110021ee982352877eedb0304d1ef8bf0ad2178f16e5e2ad48d348", func := "loop.example/g00510/laws.FnExactBarsOf", spec := "fnExactBarsOf", recurses := true, loops := true, apart := false, narrowed := true }
def FnExactBarsOfUptoSaid : Prop := fnExactBarsOfUptoRow.holds Try.pinned (OpenSpec.upto fnExactBarsOfSpec)

/-- 'laws.FnExactPointsOf', WHERE WHAT IT READS IS OF BULK AT MOST 1048576: true; the input reads as it did. -/
def fnExactPointsOfUptoRow : OpenClaim := { program := "ytmiboaogfjgkjaa", sum := "f2682916ee110021ee982352877eedb0304d1ef8bf0ad2178f16e5e2ad48d348", func := "loop.example/g00510/laws.FnExactPointsOf", spec := "fnExactPointsOf", recurses := true, loops := true, apart := false, narrowed := true }
def FnExactPointsOfUptoSaid : Prop := fnExactPointsOfUptoRow.holds Try.pinned (OpenSpec.upto fnExactPointsOfSpec)

end Rows
end Go.Proofs.Ytmiboaogfjgkjaa
