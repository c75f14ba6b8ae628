/-
  DERIVED. GIVEN WITH THE SEED: THE CARDS: each row of YtmcfegjoccgpoaaGreatDoorRows.lean that lists a variable, with what it lists TIED to the program's text (the seventh form; the later family's looks); each row that meets fmt, with fmt's text TOLD by the authors' own Lean function (tested against real Go, not proved from fmt's source: count such statements apart). THE CARD IS WHAT COUNTS. Prove the row's statement (the work); the ties are given (YtmcfegjoccgpoaaGreatDoorTie.lean); close each card by the builder's one call (the guide's Derived/Test/ToyasCard.lean, 'card_holds'). Laid BY PROGRAM, IN A SANDBOX (cutbox-door.mjs). By AI agents, Wed Nov 11 2026. No macro, syntax, notation, axiom, sorry.
-/
import Derived.Test.YtmcfegjoccgpoaaGreatDoorRows
import GoSem.ClaimSeven
namespace Go.Proofs.YtmcfegjoccgpoaaGreatDoor
namespace Rows

/-- THE TIED CARD OF 'laws.FnExactInputStamps'. -/
def fnExactInputStampsCard : Claim7 := { stood := { row := fnExactInputStampsRow, standIns := [], harness := (true, "5302960cd6026adfa3c3044981f7848c01e197fa70397cb2611dd108d1ab17eb"), looks := true }, kinds := [], alts := [], laidByText := true, laidKinds := [.data, .data, .data, .data, .sentinel, .sentinel, .pinned], laidTests := true, laidLooks := .later }
def FnExactInputStampsCardSaid : Prop := Claim7.holds Tryz.pinned (.plain (OpenSpec.ofChange fnExactInputStampsSpec)) fnExactInputStampsCard

/-- THE TIED CARD OF 'laws.FnExactStaleCells'. -/
def fnExactStaleCellsCard : Claim7 := { stood := { row := fnExactStaleCellsRow, standIns := [], harness := (true, "5302960cd6026adfa3c3044981f7848c01e197fa70397cb2611dd108d1ab17eb"), looks := true }, kinds := [], alts := [], laidByText := true, laidKinds := [.data, .data, .data, .data, .sentinel, .sentinel, .pinned], laidTests := true, laidLooks := .later }
def FnExactStaleCellsCardSaid : Prop := Claim7.holds Tryz.pinned (.plain (OpenSpec.ofChange fnExactStaleCellsSpec)) fnExactStaleCellsCard

/-- THE TIED CARD OF 'laws.FnExactDropValue'. -/
def fnExactDropValueCard : Claim7 := { stood := { row := fnExactDropValueRow, standIns := [], harness := (true, "5302960cd6026adfa3c3044981f7848c01e197fa70397cb2611dd108d1ab17eb"), looks := true }, kinds := [], alts := [], laidByText := true, laidKinds := [.data, .data, .data, .data, .sentinel, .sentinel, .pinned], laidTests := true, laidLooks := .later }
def FnExactDropValueCardSaid : Prop := Claim7.holds Tryz.pinned (.plain (OpenSpec.ofChange fnExactDropValueSpec)) fnExactDropValueCard

/-- THE TIED CARD OF 'laws.FnExactDropLargest'. -/
def fnExactDropLargestCard : Claim7 := { stood := { row := fnExactDropLargestRow, standIns := [], harness := (true, "5302960cd6026adfa3c3044981f7848c01e197fa70397cb2611dd108d1ab17eb"), looks := true }, kinds := [], alts := [], laidByText := true, laidKinds := [.data, .data, .data, .data, .sentinel, .sentinel, .pinned], laidTests := true, laidLooks := .later }
def FnExactDropLargestCardSaid : Prop := Claim7.holds Tryz.pinned (.plain (OpenSpec.ofChange fnExactDropLargestSpec)) fnExactDropLargestCard

/-- THE TIED CARD OF 'laws.FnExactTrimMemory'. -/
def fnExactTrimMemoryCard : Claim7 := { stood := { row := fnExactTrimMemoryRow, standIns := [], harness := (true, "5302960cd6026adfa3c3044981f7848c01e197fa70397cb2611dd108d1ab17eb"), looks := true }, kinds := [], alts := [], laidByText := true, laidKinds := [.data, .data, .data, .data, .sentinel, .sentinel, .pinned], laidTests := true, laidLooks := .later }
def FnExactTrimMemoryCardSaid : Prop := Claim7.holds Tryz.pinned (.plain (OpenSpec.ofChange fnExactTrimMemorySpec)) fnExactTrimMemoryCard

/-- THE SECOND FORM's CARD OF 'laws.FnExactInputStamps'. -/
def fnExactInputStampsUptoCard : Claim7 := { stood := { row := fnExactInputStampsUptoRow, standIns := [], harness := (true, "5302960cd6026adfa3c3044981f7848c01e197fa70397cb2611dd108d1ab17eb"), looks := true }, kinds := [], alts := [], laidByText := true, laidKinds := [.data, .data, .data, .data, .sentinel, .sentinel, .pinned], laidTests := true, laidLooks := .later }
def FnExactInputStampsUptoCardSaid : Prop := Claim7.holds Tryz.pinned (.plain (OpenSpec.upto fnExactInputStampsSpec)) fnExactInputStampsUptoCard

/-- THE SECOND FORM's CARD OF 'laws.FnExactStaleCells'. -/
def fnExactStaleCellsUptoCard : Claim7 := { stood := { row := fnExactStaleCellsUptoRow, standIns := [], harness := (true, "5302960cd6026adfa3c3044981f7848c01e197fa70397cb2611dd108d1ab17eb"), looks := true }, kinds := [], alts := [], laidByText := true, laidKinds := [.data, .data, .data, .data, .sentinel, .sentinel, .pinned], laidTests := true, laidLooks := .later }
def FnExactStaleCellsUptoCardSaid : Prop := Claim7.holds Tryz.pinned (.plain (OpenSpec.upto fnExactStaleCellsSpec)) fnExactStaleCellsUptoCard

/-- THE SECOND FORM's CARD OF 'laws.FnExactDropValue'. -/
def fnExactDropValueUptoCard : Claim7 := { stood := { row := fnExactDropValueUptoRow, standIns := [], harness := (true, "5302960cd6026adfa3c3044981f7848c01e197fa70397cb2611dd108d1ab17eb"), looks := true }, kinds := [], alts := [], laidByText := true, laidKinds := [.data, .data, .data, .data, .sentinel, .sentinel, .pinned], laidTests := true, laidLooks := .later }
def FnExactDropValueUptoCardSaid : Prop := Claim7.holds Tryz.pinned (.plain (OpenSpec.upto fnExactDropValueSpec)) fnExactDropValueUptoCard

/-- THE SECOND FORM's CARD OF 'laws.FnExactDropLargest'. -/
def fnExactDropLargestUptoCard : Claim7 := { stood := { row := fnExactDropLargestUptoRow, standIns := [], harness := (true, "5302960cd6026adfa3c3044981f7848c01e197fa70397cb2611dd108d1ab17eb"), looks := true }, kinds := [], alts := [], laidByText := true, laidKinds := [.data, .data, .data, .data, .sentinel, .sentinel, .pinned], laidTests := true, laidLooks := .later }
def FnExactDropLargestUptoCardSaid : Prop := Claim7.holds Tryz.pinned (.plain (OpenSpec.upto fnExactDropLargestSpec)) fnExactDropLargestUptoCard

/-- THE SECOND FORM's CARD OF 'laws.FnExactTrimMemory'. -/
def fnExactTrimMemoryUptoCard : Claim7 := { stood := { row := fnExactTrimMemoryUptoRow, standIns := [], harness := (true, "5302960cd6026adfa3c3044981f7848c01e197fa70397cb2611dd108d1ab17eb"), looks := true }, kinds := [], alts := [], laidByText := true, laidKinds := [.data, .data, .data, .data, .sentinel, .sentinel, .pinned], laidTests := true, laidLooks := .later }
def FnExactTrimMemoryUptoCardSaid : Prop := Claim7.holds Tryz.pinned (.plain (OpenSpec.upto fnExactTrimMemorySpec)) fnExactTrimMemoryUptoCard
end Rows
end Go.Proofs.YtmcfegjoccgpoaaGreatDoor
