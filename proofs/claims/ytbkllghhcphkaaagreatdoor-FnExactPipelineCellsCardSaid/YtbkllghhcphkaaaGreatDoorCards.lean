/-
  DERIVED. GIVEN WITH THE SEED: THE CARDS: each row of YtbkllghhcphkaaaGreatDoorRows.lean that lists a variable, with what it lists TIED to the program's text (the seventh form; the later family's looks); each row that meets fmt, with fmt's text TOLD by the authors' own Lean function (tested against real Go, not proved from fmt's source: count such statements apart). THE CARD IS WHAT COUNTS. Prove the row's statement (the work); the ties are given (YtbkllghhcphkaaaGreatDoorTie.lean); close each card by the builder's one call (the guide's Derived/Test/ToyasCard.lean, 'card_holds'). Laid BY PROGRAM, IN A SANDBOX (cutbox-door.mjs). By AI agents, Wed Nov 11 2026. No macro, syntax, notation, axiom, sorry.
-/
import Derived.Test.YtbkllghhcphkaaaGreatDoorRows
import GoSem.ClaimSeven
namespace Go.Proofs.YtbkllghhcphkaaaGreatDoor
namespace Rows

/-- THE TIED CARD OF 'laws.FnExactPipelineCells'. -/
def fnExactPipelineCellsCard : Claim7 := { stood := { row := fnExactPipelineCellsRow, standIns := [], harness := (true, "3b5b35188fb62e33bb25891fcf1f7dfb2ee7e326be01b17b8d4cd9f614d35da8"), looks := true }, kinds := [], alts := [], laidByText := true, laidKinds := [.data, .data, .data, .data, .sentinel, .sentinel, .pinned], laidTests := true, laidLooks := .later }
def FnExactPipelineCellsCardSaid : Prop := Claim7.holds Tryz.pinned (.plain (OpenSpec.ofChange fnExactPipelineCellsSpec)) fnExactPipelineCellsCard

/-- THE TIED CARD OF 'laws.FnExactWorkBound'. -/
def fnExactWorkBoundCard : Claim7 := { stood := { row := fnExactWorkBoundRow, standIns := [], harness := (true, "3b5b35188fb62e33bb25891fcf1f7dfb2ee7e326be01b17b8d4cd9f614d35da8"), looks := true }, kinds := [], alts := [], laidByText := true, laidKinds := [.data, .data, .data, .data, .sentinel, .sentinel, .pinned], laidTests := true, laidLooks := .later }
def FnExactWorkBoundCardSaid : Prop := Claim7.holds Tryz.pinned (.plain (OpenSpec.ofChange fnExactWorkBoundSpec)) fnExactWorkBoundCard

/-- THE SECOND FORM's CARD OF 'laws.FnExactPipelineCells'. -/
def fnExactPipelineCellsUptoCard : Claim7 := { stood := { row := fnExactPipelineCellsUptoRow, standIns := [], harness := (true, "3b5b35188fb62e33bb25891fcf1f7dfb2ee7e326be01b17b8d4cd9f614d35da8"), looks := true }, kinds := [], alts := [], laidByText := true, laidKinds := [.data, .data, .data, .data, .sentinel, .sentinel, .pinned], laidTests := true, laidLooks := .later }
def FnExactPipelineCellsUptoCardSaid : Prop := Claim7.holds Tryz.pinned (.plain (OpenSpec.upto fnExactPipelineCellsSpec)) fnExactPipelineCellsUptoCard

/-- THE SECOND FORM's CARD OF 'laws.FnExactWorkBound'. -/
def fnExactWorkBoundUptoCard : Claim7 := { stood := { row := fnExactWorkBoundUptoRow, standIns := [], harness := (true, "3b5b35188fb62e33bb25891fcf1f7dfb2ee7e326be01b17b8d4cd9f614d35da8"), looks := true }, kinds := [], alts := [], laidByText := true, laidKinds := [.data, .data, .data, .data, .sentinel, .sentinel, .pinned], laidTests := true, laidLooks := .later }
def FnExactWorkBoundUptoCardSaid : Prop := Claim7.holds Tryz.pinned (.plain (OpenSpec.upto fnExactWorkBoundSpec)) fnExactWorkBoundUptoCard
end Rows
end Go.Proofs.YtbkllghhcphkaaaGreatDoor
