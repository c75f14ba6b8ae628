/-
  DERIVED. GIVEN WITH THE SEED: THE CARDS: each row of YtpblakfidofgfaaGreatDoorRows.lean that lists a variable, with what it lists TIED to the program's text (the seventh form; the later family's looks); each row that meets fmt, with fmt's text TOLD by the authors' own Lean function (tested against real Go, not proved from fmt's source: count such statements apart). THE CARD IS WHAT COUNTS. Prove the row's statement (the work); the ties are given (YtpblakfidofgfaaGreatDoorTie.lean); close each card by the builder's one call (the guide's Derived/Test/ToyasCard.lean, 'card_holds'). Laid BY PROGRAM, IN A SANDBOX (cutbox-door.mjs). By AI agents, Wed Nov 11 2026. No macro, syntax, notation, axiom, sorry.
-/
import Derived.Test.YtpblakfidofgfaaGreatDoorRows
import GoSem.ClaimSeven
namespace Go.Proofs.YtpblakfidofgfaaGreatDoor
namespace Rows

/-- THE TIED CARD OF 'laws.FnExactIsFresh'. -/
def fnExactIsFreshCard : Claim7 := { stood := { row := fnExactIsFreshRow, standIns := [], harness := (true, "84d369c707cab10ae6eb2a2dfcf53b8e3531cb9c4afbe6b27bf140d4f57e77a7"), looks := true }, kinds := [], alts := [], laidByText := true, laidKinds := [.data, .data, .data, .data, .sentinel, .sentinel, .pinned], laidTests := true, laidLooks := .later }
def FnExactIsFreshCardSaid : Prop := Claim7.holds Tryz.pinned (.plain (OpenSpec.ofChange fnExactIsFreshSpec)) fnExactIsFreshCard

/-- THE TIED CARD OF 'laws.FnExactCanDrop'. -/
def fnExactCanDropCard : Claim7 := { stood := { row := fnExactCanDropRow, standIns := [], harness := (true, "84d369c707cab10ae6eb2a2dfcf53b8e3531cb9c4afbe6b27bf140d4f57e77a7"), looks := true }, kinds := [], alts := [], laidByText := true, laidKinds := [.data, .data, .data, .data, .sentinel, .sentinel, .pinned], laidTests := true, laidLooks := .later }
def FnExactCanDropCardSaid : Prop := Claim7.holds Tryz.pinned (.plain (OpenSpec.ofChange fnExactCanDropSpec)) fnExactCanDropCard

/-- THE TIED CARD OF 'laws.FnExactNextCell'. -/
def fnExactNextCellCard : Claim7 := { stood := { row := fnExactNextCellRow, standIns := [], harness := (true, "84d369c707cab10ae6eb2a2dfcf53b8e3531cb9c4afbe6b27bf140d4f57e77a7"), looks := true }, kinds := [], alts := [], laidByText := true, laidKinds := [.data, .data, .data, .data, .sentinel, .sentinel, .pinned], laidTests := true, laidLooks := .later }
def FnExactNextCellCardSaid : Prop := Claim7.holds Tryz.pinned (.plain (OpenSpec.ofChange fnExactNextCellSpec)) fnExactNextCellCard

/-- THE TIED CARD OF 'laws.FnExactIsSettled'. -/
def fnExactIsSettledCard : Claim7 := { stood := { row := fnExactIsSettledRow, standIns := [], harness := (true, "84d369c707cab10ae6eb2a2dfcf53b8e3531cb9c4afbe6b27bf140d4f57e77a7"), looks := true }, kinds := [], alts := [], laidByText := true, laidKinds := [.data, .data, .data, .data, .sentinel, .sentinel, .pinned], laidTests := true, laidLooks := .later }
def FnExactIsSettledCardSaid : Prop := Claim7.holds Tryz.pinned (.plain (OpenSpec.ofChange fnExactIsSettledSpec)) fnExactIsSettledCard

/-- THE TIED CARD OF 'laws.FnExactInputStamps'. -/
def fnExactInputStampsCard : Claim7 := { stood := { row := fnExactInputStampsRow, standIns := [], harness := (true, "84d369c707cab10ae6eb2a2dfcf53b8e3531cb9c4afbe6b27bf140d4f57e77a7"), looks := true }, kinds := [], alts := [], laidByText := true, laidKinds := [.data, .data, .data, .data, .sentinel, .sentinel, .pinned], laidTests := true, laidLooks := .later }
def FnExactInputStampsCardSaid : Prop := Claim7.holds Tryz.pinned (.plain (OpenSpec.ofChange fnExactInputStampsSpec)) fnExactInputStampsCard

/-- THE TIED CARD OF 'laws.FnExactStaleCells'. -/
def fnExactStaleCellsCard : Claim7 := { stood := { row := fnExactStaleCellsRow, standIns := [], harness := (true, "84d369c707cab10ae6eb2a2dfcf53b8e3531cb9c4afbe6b27bf140d4f57e77a7"), looks := true }, kinds := [], alts := [], laidByText := true, laidKinds := [.data, .data, .data, .data, .sentinel, .sentinel, .pinned], laidTests := true, laidLooks := .later }
def FnExactStaleCellsCardSaid : Prop := Claim7.holds Tryz.pinned (.plain (OpenSpec.ofChange fnExactStaleCellsSpec)) fnExactStaleCellsCard

/-- THE TIED CARD OF 'laws.FnExactDropValue'. -/
def fnExactDropValueCard : Claim7 := { stood := { row := fnExactDropValueRow, standIns := [], harness := (true, "84d369c707cab10ae6eb2a2dfcf53b8e3531cb9c4afbe6b27bf140d4f57e77a7"), looks := true }, kinds := [], alts := [], laidByText := true, laidKinds := [.data, .data, .data, .data, .sentinel, .sentinel, .pinned], laidTests := true, laidLooks := .later }
def FnExactDropValueCardSaid : Prop := Claim7.holds Tryz.pinned (.plain (OpenSpec.ofChange fnExactDropValueSpec)) fnExactDropValueCard

/-- THE TIED CARD OF 'laws.FnExactDropLargest'. -/
def fnExactDropLargestCard : Claim7 := { stood := { row := fnExactDropLargestRow, standIns := [], harness := (true, "84d369c707cab10ae6eb2a2dfcf53b8e3531cb9c4afbe6b27bf140d4f57e77a7"), looks := true }, kinds := [], alts := [], laidByText := true, laidKinds := [.data, .data, .data, .data, .sentinel, .sentinel, .pinned], laidTests := true, laidLooks := .later }
def FnExactDropLargestCardSaid : Prop := Claim7.holds Tryz.pinned (.plain (OpenSpec.ofChange fnExactDropLargestSpec)) fnExactDropLargestCard

/-- THE TIED CARD OF 'laws.FnExactTrimMemory'. -/
def fnExactTrimMemoryCard : Claim7 := { stood := { row := fnExactTrimMemoryRow, standIns := [], harness := (true, "84d369c707cab10ae6eb2a2dfcf53b8e3531cb9c4afbe6b27bf140d4f57e77a7"), looks := true }, kinds := [], alts := [], laidByText := true, laidKinds := [.data, .data, .data, .data, .sentinel, .sentinel, .pinned], laidTests := true, laidLooks := .later }
def FnExactTrimMemoryCardSaid : Prop := Claim7.holds Tryz.pinned (.plain (OpenSpec.ofChange fnExactTrimMemorySpec)) fnExactTrimMemoryCard

/-- THE SECOND FORM's CARD OF 'laws.FnExactIsFresh'. -/
def fnExactIsFreshUptoCard : Claim7 := { stood := { row := fnExactIsFreshUptoRow, standIns := [], harness := (true, "84d369c707cab10ae6eb2a2dfcf53b8e3531cb9c4afbe6b27bf140d4f57e77a7"), looks := true }, kinds := [], alts := [], laidByText := true, laidKinds := [.data, .data, .data, .data, .sentinel, .sentinel, .pinned], laidTests := true, laidLooks := .later }
def FnExactIsFreshUptoCardSaid : Prop := Claim7.holds Tryz.pinned (.plain (OpenSpec.upto fnExactIsFreshSpec)) fnExactIsFreshUptoCard

/-- THE SECOND FORM's CARD OF 'laws.FnExactCanDrop'. -/
def fnExactCanDropUptoCard : Claim7 := { stood := { row := fnExactCanDropUptoRow, standIns := [], harness := (true, "84d369c707cab10ae6eb2a2dfcf53b8e3531cb9c4afbe6b27bf140d4f57e77a7"), looks := true }, kinds := [], alts := [], laidByText := true, laidKinds := [.data, .data, .data, .data, .sentinel, .sentinel, .pinned], laidTests := true, laidLooks := .later }
def FnExactCanDropUptoCardSaid : Prop := Claim7.holds Tryz.pinned (.plain (OpenSpec.upto fnExactCanDropSpec)) fnExactCanDropUptoCard

/-- THE SECOND FORM's CARD OF 'laws.FnExactNextCell'. -/
def fnExactNextCellUptoCard : Claim7 := { stood := { row := fnExactNextCellUptoRow, standIns := [], harness := (true, "84d369c707cab10ae6eb2a2dfcf53b8e3531cb9c4afbe6b27bf140d4f57e77a7"), looks := true }, kinds := [], alts := [], laidByText := true, laidKinds := [.data, .data, .data, .data, .sentinel, .sentinel, .pinned], laidTests := true, laidLooks := .later }
def FnExactNextCellUptoCardSaid : Prop := Claim7.holds Tryz.pinned (.plain (OpenSpec.upto fnExactNextCellSpec)) fnExactNextCellUptoCard

/-- THE SECOND FORM's CARD OF 'laws.FnExactIsSettled'. -/
def fnExactIsSettledUptoCard : Claim7 := { stood := { row := fnExactIsSettledUptoRow, standIns := [], harness := (true, "84d369c707cab10ae6eb2a2dfcf53b8e3531cb9c4afbe6b27bf140d4f57e77a7"), looks := true }, kinds := [], alts := [], laidByText := true, laidKinds := [.data, .data, .data, .data, .sentinel, .sentinel, .pinned], laidTests := true, laidLooks := .later }
def FnExactIsSettledUptoCardSaid : Prop := Claim7.holds Tryz.pinned (.plain (OpenSpec.upto fnExactIsSettledSpec)) fnExactIsSettledUptoCard

/-- THE SECOND FORM's CARD OF 'laws.FnExactInputStamps'. -/
def fnExactInputStampsUptoCard : Claim7 := { stood := { row := fnExactInputStampsUptoRow, standIns := [], harness := (true, "84d369c707cab10ae6eb2a2dfcf53b8e3531cb9c4afbe6b27bf140d4f57e77a7"), looks := true }, kinds := [], alts := [], laidByText := true, laidKinds := [.data, .data, .data, .data, .sentinel, .sentinel, .pinned], laidTests := true, laidLooks := .later }
def FnExactInputStampsUptoCardSaid : Prop := Claim7.holds Tryz.pinned (.plain (OpenSpec.upto fnExactInputStampsSpec)) fnExactInputStampsUptoCard

/-- THE SECOND FORM's CARD OF 'laws.FnExactStaleCells'. -/
def fnExactStaleCellsUptoCard : Claim7 := { stood := { row := fnExactStaleCellsUptoRow, standIns := [], harness := (true, "84d369c707cab10ae6eb2a2dfcf53b8e3531cb9c4afbe6b27bf140d4f57e77a7"), looks := true }, kinds := [], alts := [], laidByText := true, laidKinds := [.data, .data, .data, .data, .sentinel, .sentinel, .pinned], laidTests := true, laidLooks := .later }
def FnExactStaleCellsUptoCardSaid : Prop := Claim7.holds Tryz.pinned (.plain (OpenSpec.upto fnExactStaleCellsSpec)) fnExactStaleCellsUptoCard

/-- THE SECOND FORM's CARD OF 'laws.FnExactDropValue'. -/
def fnExactDropValueUptoCard : Claim7 := { stood := { row := fnExactDropValueUptoRow, standIns := [], harness := (true, "84d369c707cab10ae6eb2a2dfcf53b8e3531cb9c4afbe6b27bf140d4f57e77a7"), looks := true }, kinds := [], alts := [], laidByText := true, laidKinds := [.data, .data, .data, .data, .sentinel, .sentinel, .pinned], laidTests := true, laidLooks := .later }
def FnExactDropValueUptoCardSaid : Prop := Claim7.holds Tryz.pinned (.plain (OpenSpec.upto fnExactDropValueSpec)) fnExactDropValueUptoCard

/-- THE SECOND FORM's CARD OF 'laws.FnExactDropLargest'. -/
def fnExactDropLargestUptoCard : Claim7 := { stood := { row := fnExactDropLargestUptoRow, standIns := [], harness := (true, "84d369c707cab10ae6eb2a2dfcf53b8e3531cb9c4afbe6b27bf140d4f57e77a7"), looks := true }, kinds := [], alts := [], laidByText := true, laidKinds := [.data, .data, .data, .data, .sentinel, .sentinel, .pinned], laidTests := true, laidLooks := .later }
def FnExactDropLargestUptoCardSaid : Prop := Claim7.holds Tryz.pinned (.plain (OpenSpec.upto fnExactDropLargestSpec)) fnExactDropLargestUptoCard

/-- THE SECOND FORM's CARD OF 'laws.FnExactTrimMemory'. -/
def fnExactTrimMemoryUptoCard : Claim7 := { stood := { row := fnExactTrimMemoryUptoRow, standIns := [], harness := (true, "84d369c707cab10ae6eb2a2dfcf53b8e3531cb9c4afbe6b27bf140d4f57e77a7"), looks := true }, kinds := [], alts := [], laidByText := true, laidKinds := [.data, .data, .data, .data, .sentinel, .sentinel, .pinned], laidTests := true, laidLooks := .later }
def FnExactTrimMemoryUptoCardSaid : Prop := Claim7.holds Tryz.pinned (.plain (OpenSpec.upto fnExactTrimMemorySpec)) fnExactTrimMemoryUptoCard
end Rows
end Go.Proofs.YtpblakfidofgfaaGreatDoor
