/-
  NARROWER THAN 'FOR EVERY INPUT', by the rows' own cells (each row's printed sentence says how): FnExactHasRow: loops · FnExactIsPipeline: loops.
  DERIVED. THE GIVEN ROWS OF THIS SEAT. 9 by the template 'for every input the law returns true; each argument reads behind the call as it read before'; 0 by the template 'total and deterministic' (their statements: YtopjlbifglacpaaTotals.lean).
  GIVEN WITH THE SEED: the statements are not yours to turn. If you find one false, say at which input.
  Laid BY PROGRAM, IN A SANDBOX (cutbox-rows.mjs): the forced cells as the released guide's own fill.sh prints them over the translation 31dff81fa265c8f9… (all of the seat's roots in one cut). By AI agents, Wed Nov 11 2026. No macro, syntax, notation, axiom, sorry.
-/
import Derived.Test.YtopjlbifglacpaaChecked
import GoSem.Claim
import GoSem.ClaimJoined
import GoSem.ClaimMapViews
import Derived.JoinedTies
import Derived.KernelRfl
namespace Go.Proofs.Ytopjlbifglacpaa
/- THE CELL 'sum', in the pinned program and in every row, IS THE sha256 OF THE DUMP (.gsa) THAT YtopjlbifglacpaaProg.lean LOADS. Nothing in Lean hashes anything: it is a label: what it is worth is what the hold of that sum in a sandbox is worth. -/
noncomputable def Try.pinned : Pinned := { name := "ytopjlbifglacpaa", sum := "31dff81fa265c8f9569f77a80961e50e271ae96d4da454eeab951fbe86416161", checked := Try.checked }
namespace Rows
def none {H : Type} : Left H := { results := [], args := [] }

/-- 'laws.FnExactEqualView': WHATEVER THE INPUT: true; the input reads as it did. -/
def fnExactEqualViewSpec : ChangeSpec := { name := "fnExactEqualView", fn := fun _ => fun
  | [d1, d2] => { results := [.lit (.bool true)], args := [d1, d2] }
  | _ => none }
def fnExactEqualViewRow : OpenClaim := { program := "ytopjlbifglacpaa", sum := "31dff81fa265c8f9569f77a80961e50e271ae96d4da454eeab951fbe86416161", func := "loop.example/g00510/laws.FnExactEqualView", spec := "fnExactEqualView", apart := false }
def FnExactEqualViewSaid : Prop := fnExactEqualViewRow.holds Try.pinned (OpenSpec.ofChange fnExactEqualViewSpec)

/-- ITS FALSE NEIGHBOUR: 'it returns false'. Refute it at one input. -/
def fnExactEqualViewWrong : ChangeSpec := { name := "fnExactEqualView", fn := fun _ => fun
  | [d1, d2] => { results := [.lit (.bool false)], args := [d1, d2] }
  | _ => none }
def FnExactEqualViewWrongFalsely : Prop := fnExactEqualViewRow.holds Try.pinned (OpenSpec.ofChange fnExactEqualViewWrong)

/-- 'laws.FnExactIsInside': WHATEVER THE INPUT: true; the input reads as it did. -/
def fnExactIsInsideSpec : ChangeSpec := { name := "fnExactIsInside", fn := fun _ => fun
  | [d] => { results := [.lit (.bool true)], args := [d] }
  | _ => none }
def fnExactIsInsideRow : OpenClaim := { program := "ytopjlbifglacpaa", sum := "31dff81fa265c8f9569f77a80961e50e271ae96d4da454eeab951fbe86416161", func := "loop.example/g00510/laws.FnExactIsInside", spec := "fnExactIsInside", apart := false }
def FnExactIsInsideSaid : Prop := fnExactIsInsideRow.holds Try.pinned (OpenSpec.ofChange fnExactIsInsideSpec)

/-- ITS FALSE NEIGHBOUR: 'it returns false'. Refute it at one input. -/
def fnExactIsInsideWrong : ChangeSpec := { name := "fnExactIsInside", fn := fun _ => fun
  | [d] => { results := [.lit (.bool false)], args := [d] }
  | _ => none }
def FnExactIsInsideWrongFalsely : Prop := fnExactIsInsideRow.holds Try.pinned (OpenSpec.ofChange fnExactIsInsideWrong)

/-- 'laws.FnExactDiffSize': WHATEVER THE INPUT: true; the input reads as it did. -/
def fnExactDiffSizeSpec : ChangeSpec := { name := "fnExactDiffSize", fn := fun _ => fun
  | [d] => { results := [.lit (.bool true)], args := [d] }
  | _ => none }
def fnExactDiffSizeRow : OpenClaim := { program := "ytopjlbifglacpaa", sum := "31dff81fa265c8f9569f77a80961e50e271ae96d4da454eeab951fbe86416161", func := "loop.example/g00510/laws.FnExactDiffSize", spec := "fnExactDiffSize", apart := false }
def FnExactDiffSizeSaid : Prop := fnExactDiffSizeRow.holds Try.pinned (OpenSpec.ofChange fnExactDiffSizeSpec)

/-- ITS FALSE NEIGHBOUR: 'it returns false'. Refute it at one input. -/
def fnExactDiffSizeWrong : ChangeSpec := { name := "fnExactDiffSize", fn := fun _ => fun
  | [d] => { results := [.lit (.bool false)], args := [d] }
  | _ => none }
def FnExactDiffSizeWrongFalsely : Prop := fnExactDiffSizeRow.holds Try.pinned (OpenSpec.ofChange fnExactDiffSizeWrong)

/-- 'laws.FnExactShownCells': WHATEVER THE INPUT: true; the input reads as it did. -/
def fnExactShownCellsSpec : ChangeSpec := { name := "fnExactShownCells", fn := fun _ => fun
  | [d] => { results := [.lit (.bool true)], args := [d] }
  | _ => none }
def fnExactShownCellsRow : OpenClaim := { program := "ytopjlbifglacpaa", sum := "31dff81fa265c8f9569f77a80961e50e271ae96d4da454eeab951fbe86416161", func := "loop.example/g00510/laws.FnExactShownCells", spec := "fnExactShownCells", apart := false }
def FnExactShownCellsSaid : Prop := fnExactShownCellsRow.holds Try.pinned (OpenSpec.ofChange fnExactShownCellsSpec)

/-- ITS FALSE NEIGHBOUR: 'it returns false'. Refute it at one input. -/
def fnExactShownCellsWrong : ChangeSpec := { name := "fnExactShownCells", fn := fun _ => fun
  | [d] => { results := [.lit (.bool false)], args := [d] }
  | _ => none }
def FnExactShownCellsWrongFalsely : Prop := fnExactShownCellsRow.holds Try.pinned (OpenSpec.ofChange fnExactShownCellsWrong)

/-- 'laws.FnExactDiffViews': WHATEVER THE INPUT: true; the input reads as it did. -/
def fnExactDiffViewsSpec : ChangeSpec := { name := "fnExactDiffViews", fn := fun _ => fun
  | [d1, d2] => { results := [.lit (.bool true)], args := [d1, d2] }
  | _ => none }
def fnExactDiffViewsRow : OpenClaim := { program := "ytopjlbifglacpaa", sum := "31dff81fa265c8f9569f77a80961e50e271ae96d4da454eeab951fbe86416161", func := "loop.example/g00510/laws.FnExactDiffViews", spec := "fnExactDiffViews", apart := false }
def FnExactDiffViewsSaid : Prop := fnExactDiffViewsRow.holds Try.pinned (OpenSpec.ofChange fnExactDiffViewsSpec)

/-- ITS FALSE NEIGHBOUR: 'it returns false'. Refute it at one input. -/
def fnExactDiffViewsWrong : ChangeSpec := { name := "fnExactDiffViews", fn := fun _ => fun
  | [d1, d2] => { results := [.lit (.bool false)], args := [d1, d2] }
  | _ => none }
def FnExactDiffViewsWrongFalsely : Prop := fnExactDiffViewsRow.holds Try.pinned (OpenSpec.ofChange fnExactDiffViewsWrong)

/-- 'laws.FnExactChangedCells': WHATEVER THE INPUT: true; the input reads as it did. -/
def fnExactChangedCellsSpec : ChangeSpec := { name := "fnExactChangedCells", fn := fun _ => fun
  | [d1, d2] => { results := [.lit (.bool true)], args := [d1, d2] }
  | _ => none }
def fnExactChangedCellsRow : OpenClaim := { program := "ytopjlbifglacpaa", sum := "31dff81fa265c8f9569f77a80961e50e271ae96d4da454eeab951fbe86416161", func := "loop.example/g00510/laws.FnExactChangedCells", spec := "fnExactChangedCells", apart := false }
def FnExactChangedCellsSaid : Prop := fnExactChangedCellsRow.holds Try.pinned (OpenSpec.ofChange fnExactChangedCellsSpec)

/-- ITS FALSE NEIGHBOUR: 'it returns false'. Refute it at one input. -/
def fnExactChangedCellsWrong : ChangeSpec := { name := "fnExactChangedCells", fn := fun _ => fun
  | [d1, d2] => { results := [.lit (.bool false)], args := [d1, d2] }
  | _ => none }
def FnExactChangedCellsWrongFalsely : Prop := fnExactChangedCellsRow.holds Try.pinned (OpenSpec.ofChange fnExactChangedCellsWrong)

/-- 'laws.FnExactApplyDiff': WHATEVER THE INPUT: true; the input reads as it did. -/
def fnExactApplyDiffSpec : ChangeSpec := { name := "fnExactApplyDiff", fn := fun _ => fun
  | [d1, d2] => { results := [.lit (.bool true)], args := [d1, d2] }
  | _ => none }
def fnExactApplyDiffRow : OpenClaim := { program := "ytopjlbifglacpaa", sum := "31dff81fa265c8f9569f77a80961e50e271ae96d4da454eeab951fbe86416161", func := "loop.example/g00510/laws.FnExactApplyDiff", spec := "fnExactApplyDiff", apart := false }
def FnExactApplyDiffSaid : Prop := fnExactApplyDiffRow.holds Try.pinned (OpenSpec.ofChange fnExactApplyDiffSpec)

/-- ITS FALSE NEIGHBOUR: 'it returns false'. Refute it at one input. -/
def fnExactApplyDiffWrong : ChangeSpec := { name := "fnExactApplyDiff", fn := fun _ => fun
  | [d1, d2] => { results := [.lit (.bool false)], args := [d1, d2] }
  | _ => none }
def FnExactApplyDiffWrongFalsely : Prop := fnExactApplyDiffRow.holds Try.pinned (OpenSpec.ofChange fnExactApplyDiffWrong)

/-- 'laws.FnExactHasRow': WHATEVER THE INPUT: true; the input reads as it did. -/
def fnExactHasRowSpec : ChangeSpec := { name := "fnExactHasRow", fn := fun _ => fun
  | [d1, d2] => { results := [.lit (.bool true)], args := [d1, d2] }
  | _ => none }
def fnExactHasRowRow : OpenClaim := { program := "ytopjlbifglacpaa", sum := "31dff81fa265c8f9569f77a80961e50e271ae96d4da454eeab951fbe86416161", func := "loop.example/g00510/laws.FnExactHasRow", spec := "fnExactHasRow", recurses := true, loops := true, apart := false }
def FnExactHasRowSaid : Prop := fnExactHasRowRow.holds Try.pinned (OpenSpec.ofChange fnExactHasRowSpec)

/-- ITS FALSE NEIGHBOUR: 'it returns false'. Refute it at one input. -/
def fnExactHasRowWrong : ChangeSpec := { name := "fnExactHasRow", fn := fun _ => fun
  | [d1, d2] => { results := [.lit (.bool false)], args := [d1, d2] }
  | _ => none }
def FnExactHasRowWrongFalsely : Prop := fnExactHasRowRow.holds Try.pinned (OpenSpec.ofChange fnExactHasRowWrong)

/-- 'laws.FnExactIsPipeline': WHATEVER THE INPUT: true; the input reads as it did. -/
def fnExactIsPipelineSpec : ChangeSpec := { name := "fnExactIsPipeline", fn := fun _ => fun
  | [d] => { results := [.lit (.bool true)], args := [d] }
  | _ => none }
def fnExactIsPipelineRow : OpenClaim := { program := "ytopjlbifglacpaa", sum := "31dff81fa265c8f9569f77a80961e50e271ae96d4da454eeab951fbe86416161", func := "loop.example/g00510/laws.FnExactIsPipeline", spec := "fnExactIsPipeline", recurses := true, loops := true, apart := false }
def FnExactIsPipelineSaid : Prop := fnExactIsPipelineRow.holds Try.pinned (OpenSpec.ofChange fnExactIsPipelineSpec)

/-- ITS FALSE NEIGHBOUR: 'it returns false'. Refute it at one input. -/
def fnExactIsPipelineWrong : ChangeSpec := { name := "fnExactIsPipeline", fn := fun _ => fun
  | [d] => { results := [.lit (.bool false)], args := [d] }
  | _ => none }
def FnExactIsPipelineWrongFalsely : Prop := fnExactIsPipelineRow.holds Try.pinned (OpenSpec.ofChange fnExactIsPipelineWrong)

/- THE SECOND FORM. 'bulk': how many values and letters a reading holds, each counted each time it is reached (what is shared counts as often as it is met; a slice's spare places count too). A statement '..UptoSaid' is the law's where the arguments, and the package variables that the reading takes, are together of bulk at most 1048576: NARROWER than '..Said'. Prove '..Said' where nothing that the law and all that it calls make is longer than what came in: it says more and counts as full. Else prove '..UptoSaid'. A law counts once. -/
mutual
def uptoBulk {H : Type} : DataW H → Nat
  | .lit (.string bytes) => bytes.length + 1
  | .lit _ => 1
  | .nil => 1
  | .ptr d => uptoBulk d + 1
  | .slice elems spare => uptoBulkAll elems + uptoBulkAll spare + 1
  | .agg parts => uptoBulkAll parts + 1
  | .iface _ d => uptoBulk d + 1
  | .map entries => uptoBulkEntries entries + 1
  | .held _ => 1
def uptoBulkAll {H : Type} : List (DataW H) → Nat
  | [] => 0
  | d :: r => uptoBulk d + uptoBulkAll r
def uptoBulkEntries {H : Type} : List (Lit × DataW H) → Nat
  | [] => 0
  | x :: r => uptoBulkEntry x + uptoBulkEntries r
def uptoBulkEntry {H : Type} : Lit × DataW H → Nat
  | (.string bytes, d) => bytes.length + uptoBulk d + 1
  | (_, d) => uptoBulk d + 1
 end
def uptoSmall : (H : Type) → List (DataW H) → Bool := fun _ ds => decide (uptoBulkAll ds ≤ 1048576)
def OpenSpec.upto (s : _root_.Go.ChangeSpec) : _root_.Go.OpenSpec := { _root_.Go.OpenSpec.ofChange s with cond := some uptoSmall }

/-- 'laws.FnExactEqualView', WHERE WHAT IT READS IS OF BULK AT MOST 1048576: true; the input reads as it did. -/
def fnExactEqualViewUptoRow : OpenClaim := { program := "ytopjlbifglacpaa", sum := "31dff81fa265c8f9569f77a80961e50e271ae96d4da454eeab951fbe86416161", func := "loop.example/g00510/laws.FnExactEqualView", spec := "fnExactEqualView", apart := false, narrowed := true }
def FnExactEqualViewUptoSaid : Prop := fnExactEqualViewUptoRow.holds Try.pinned (OpenSpec.upto fnExactEqualViewSpec)

/-- 'laws.FnExactIsInside', WHERE WHAT IT READS IS OF BULK AT MOST 1048576: true; the input reads as it did. -/
def fnExactIsInsideUptoRow : OpenClaim := { program := "ytopjlbifglacpaa", sum := "31dff81fa265c8f9569f77a80961e50e271ae96d4da454eeab951fbe86416161", func := "loop.example/g00510/laws.FnExactIsInside", spec := "fnExactIsInside", apart := false, narrowed := true }
def FnExactIsInsideUptoSaid : Prop := fnExactIsInsideUptoRow.holds Try.pinned (OpenSpec.upto fnExactIsInsideSpec)

/-- 'laws.FnExactDiffSize', WHERE WHAT IT READS IS OF BULK AT MOST 1048576: true; the input reads as it did. -/
def fnExactDiffSizeUptoRow : OpenClaim := { program := "ytopjlbifglacpaa", sum := "31dff81fa265c8f9569f77a80961e50e271ae96d4da454eeab951fbe86416161", func := "loop.example/g00510/laws.FnExactDiffSize", spec := "fnExactDiffSize", apart := false, narrowed := true }
def FnExactDiffSizeUptoSaid : Prop := fnExactDiffSizeUptoRow.holds Try.pinned (OpenSpec.upto fnExactDiffSizeSpec)

/-- 'laws.FnExactShownCells', WHERE WHAT IT READS IS OF BULK AT MOST 1048576: true; the input reads as it did. -/
def fnExactShownCellsUptoRow : OpenClaim := { program := "ytopjlbifglacpaa", sum := "31dff81fa265c8f9569f77a80961e50e271ae96d4da454eeab951fbe86416161", func := "loop.example/g00510/laws.FnExactShownCells", spec := "fnExactShownCells", apart := false, narrowed := true }
def FnExactShownCellsUptoSaid : Prop := fnExactShownCellsUptoRow.holds Try.pinned (OpenSpec.upto fnExactShownCellsSpec)

/-- 'laws.FnExactDiffViews', WHERE WHAT IT READS IS OF BULK AT MOST 1048576: true; the input reads as it did. -/
def fnExactDiffViewsUptoRow : OpenClaim := { program := "ytopjlbifglacpaa", sum := "31dff81fa265c8f9569f77a80961e50e271ae96d4da454eeab951fbe86416161", func := "loop.example/g00510/laws.FnExactDiffViews", spec := "fnExactDiffViews", apart := false, narrowed := true }
def FnExactDiffViewsUptoSaid : Prop := fnExactDiffViewsUptoRow.holds Try.pinned (OpenSpec.upto fnExactDiffViewsSpec)

/-- 'laws.FnExactChangedCells', WHERE WHAT IT READS IS OF BULK AT MOST 1048576: true; the input reads as it did. -/
def fnExactChangedCellsUptoRow : OpenClaim := { program := "ytopjlbifglacpaa", sum := "31dff81fa265c8f9569f77a80961e50e271ae96d4da454eeab951fbe86416161", func := "loop.example/g00510/laws.FnExactChangedCells", spec := "fnExactChangedCells", apart := false, narrowed := true }
def FnExactChangedCellsUptoSaid : Prop := fnExactChangedCellsUptoRow.holds Try.pinned (OpenSpec.upto fnExactChangedCellsSpec)

/-- 'laws.FnExactApplyDiff', WHERE WHAT IT READS IS OF BULK AT MOST 1048576: true; the input reads as it did. -/
def fnExactApplyDiffUptoRow : OpenClaim := { program := "ytopjlbifglacpaa", sum := "31dff81fa265c8f9569f77a80961e50e271ae96d4da454eeab951fbe86416161", func := "loop.example/g00510/laws.FnExactApplyDiff", spec := "fnExactApplyDiff", apart := false, narrowed := true }
def FnExactApplyDiffUptoSaid : Prop := fnExactApplyDiffUptoRow.holds Try.pinned (OpenSpec.upto fnExactApplyDiffSpec)

/-- 'laws.FnExactHasRow', WHERE WHAT IT READS IS OF BULK AT MOST 1048576: true; the input reads as it did. -/
def fnExactHasRowUptoRow : OpenClaim := { program := "ytopjlbifglacpaa", sum := "31dff81fa265c8f9569f77a80961e50e271ae96d4da454eeab951fbe86416161", func := "loop.example/g00510/laws.FnExactHasRow", spec := "fnExactHasRow", recurses := true, loops := true, apart := false, narrowed := true }
def FnExactHasRowUptoSaid : Prop := fnExactHasRowUptoRow.holds Try.pinned (OpenSpec.upto fnExactHasRowSpec)

/-- 'laws.FnExactIsPipeline', WHERE WHAT IT READS IS OF BULK AT MOST 1048576: true; the input reads as it did. -/
def fnExactIsPipelineUptoRow : OpenClaim := { program := "ytopjlbifglacpaa", sum := "31dff81fa265c8f9569f77a80961e50e271ae96d4da454eeab951fbe86416161", func := "loop.example/g00510/laws.FnExactIsPipeline", spec := "fnExactIsPipeline", recurses := true, loops := true, apart := false, narrowed := true }
def FnExactIsPipelineUptoSaid : Prop := fnExactIsPipelineUptoRow.holds Try.pinned (OpenSpec.upto fnExactIsPipelineSpec)

end Rows
end Go.Proofs.Ytopjlbifglacpaa
