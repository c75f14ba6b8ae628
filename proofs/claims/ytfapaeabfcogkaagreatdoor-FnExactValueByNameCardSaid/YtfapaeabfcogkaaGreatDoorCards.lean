/-
  DERIVED. GIVEN WITH THE SEED: THE CARDS: each row of YtfapaeabfcogkaaGreatDoorRows.lean that lists a variable, with what it lists TIED to the program's text (the seventh form; the later family's looks); each row that meets fmt, with fmt's text TOLD by the authors' own Lean function (tested against real Go, not proved from fmt's source: count such statements apart). THE CARD IS WHAT COUNTS. Prove the row's statement (the work); the ties are given (YtfapaeabfcogkaaGreatDoorTie.lean); close each card by the builder's one call (the guide's Derived/Test/ToyasCard.lean, 'card_holds'). Laid BY PROGRAM, IN A SANDBOX (cutbox-door.mjs). By AI agents, Wed Nov 11 2026. No macro, syntax, notation, axiom, sorry.
-/
import Derived.Test.YtfapaeabfcogkaaGreatDoorRows
import GoSem.ClaimSeven
namespace Go.Proofs.YtfapaeabfcogkaaGreatDoor
namespace Rows

/-- THE TIED CARD OF 'laws.FnExactValueByName'. -/
def fnExactValueByNameCard : Claim7 := { stood := { row := fnExactValueByNameRow, standIns := [], harness := (true, "f74b608e58607c83436dfc6dbb05836df8f4cf15568c79cff4e9109f951b1f81"), looks := true }, kinds := [], alts := [], laidByText := true, laidKinds := [.data, .data, .data, .data, .sentinel, .sentinel, .pinned], laidTests := true, laidLooks := .later }
def FnExactValueByNameCardSaid : Prop := Claim7.holds Tryz.pinned (.plain (OpenSpec.ofChange fnExactValueByNameSpec)) fnExactValueByNameCard

/-- THE TIED CARD OF 'laws.FnExactPipelineCells'. -/
def fnExactPipelineCellsCard : Claim7 := { stood := { row := fnExactPipelineCellsRow, standIns := [], harness := (true, "f74b608e58607c83436dfc6dbb05836df8f4cf15568c79cff4e9109f951b1f81"), looks := true }, kinds := [], alts := [], laidByText := true, laidKinds := [.data, .data, .data, .data, .sentinel, .sentinel, .pinned], laidTests := true, laidLooks := .later }
def FnExactPipelineCellsCardSaid : Prop := Claim7.holds Tryz.pinned (.plain (OpenSpec.ofChange fnExactPipelineCellsSpec)) fnExactPipelineCellsCard

/-- THE TIED CARD OF 'laws.FnExactWorkBound'. -/
def fnExactWorkBoundCard : Claim7 := { stood := { row := fnExactWorkBoundRow, standIns := [], harness := (true, "f74b608e58607c83436dfc6dbb05836df8f4cf15568c79cff4e9109f951b1f81"), looks := true }, kinds := [], alts := [], laidByText := true, laidKinds := [.data, .data, .data, .data, .sentinel, .sentinel, .pinned], laidTests := true, laidLooks := .later }
def FnExactWorkBoundCardSaid : Prop := Claim7.holds Tryz.pinned (.plain (OpenSpec.ofChange fnExactWorkBoundSpec)) fnExactWorkBoundCard

/-- THE TIED CARD OF 'laws.FnExactStaleCells'. -/
def fnExactStaleCellsCard : Claim7 := { stood := { row := fnExactStaleCellsRow, standIns := [], harness := (true, "f74b608e58607c83436dfc6dbb05836df8f4cf15568c79cff4e9109f951b1f81"), looks := true }, kinds := [], alts := [], laidByText := true, laidKinds := [.data, .data, .data, .data, .sentinel, .sentinel, .pinned], laidTests := true, laidLooks := .later }
def FnExactStaleCellsCardSaid : Prop := Claim7.holds Tryz.pinned (.plain (OpenSpec.ofChange fnExactStaleCellsSpec)) fnExactStaleCellsCard

/-- THE SECOND FORM's CARD OF 'laws.FnExactValueByName'. -/
def fnExactValueByNameUptoCard : Claim7 := { stood := { row := fnExactValueByNameUptoRow, standIns := [], harness := (true, "f74b608e58607c83436dfc6dbb05836df8f4cf15568c79cff4e9109f951b1f81"), looks := true }, kinds := [], alts := [], laidByText := true, laidKinds := [.data, .data, .data, .data, .sentinel, .sentinel, .pinned], laidTests := true, laidLooks := .later }
def FnExactValueByNameUptoCardSaid : Prop := Claim7.holds Tryz.pinned (.plain (OpenSpec.upto fnExactValueByNameSpec)) fnExactValueByNameUptoCard

/-- THE SECOND FORM's CARD OF 'laws.FnExactPipelineCells'. -/
def fnExactPipelineCellsUptoCard : Claim7 := { stood := { row := fnExactPipelineCellsUptoRow, standIns := [], harness := (true, "f74b608e58607c83436dfc6dbb05836df8f4cf15568c79cff4e9109f951b1f81"), looks := true }, kinds := [], alts := [], laidByText := true, laidKinds := [.data, .data, .data, .data, .sentinel, .sentinel, .pinned], laidTests := true, laidLooks := .later }
def FnExactPipelineCellsUptoCardSaid : Prop := Claim7.holds Tryz.pinned (.plain (OpenSpec.upto fnExactPipelineCellsSpec)) fnExactPipelineCellsUptoCard

/-- THE SECOND FORM's CARD OF 'laws.FnExactWorkBound'. -/
def fnExactWorkBoundUptoCard : Claim7 := { stood := { row := fnExactWorkBoundUptoRow, standIns := [], harness := (true, "f74b608e58607c83436dfc6dbb05836df8f4cf15568c79cff4e9109f951b1f81"), looks := true }, kinds := [], alts := [], laidByText := true, laidKinds := [.data, .data, .data, .data, .sentinel, .sentinel, .pinned], laidTests := true, laidLooks := .later }
def FnExactWorkBoundUptoCardSaid : Prop := Claim7.holds Tryz.pinned (.plain (OpenSpec.upto fnExactWorkBoundSpec)) fnExactWorkBoundUptoCard

/-- THE SECOND FORM's CARD OF 'laws.FnExactStaleCells'. -/
def fnExactStaleCellsUptoCard : Claim7 := { stood := { row := fnExactStaleCellsUptoRow, standIns := [], harness := (true, "f74b608e58607c83436dfc6dbb05836df8f4cf15568c79cff4e9109f951b1f81"), looks := true }, kinds := [], alts := [], laidByText := true, laidKinds := [.data, .data, .data, .data, .sentinel, .sentinel, .pinned], laidTests := true, laidLooks := .later }
def FnExactStaleCellsUptoCardSaid : Prop := Claim7.holds Tryz.pinned (.plain (OpenSpec.upto fnExactStaleCellsSpec)) fnExactStaleCellsUptoCard
end Rows
end Go.Proofs.YtfapaeabfcogkaaGreatDoor
