/-
  DERIVED. GIVEN WITH THE SEED: THE CARDS: each row of YtmiboaogfjgkjaaGreatDoorRows.lean that lists a variable, with what it lists TIED to the program's text (the seventh form; the later family's looks); each row that meets fmt, with fmt's text TOLD by the authors' own Lean function (tested against real Go, not proved from fmt's source: count such statements apart). THE CARD IS WHAT COUNTS. Prove the row's statement (the work); the ties are given (YtmiboaogfjgkjaaGreatDoorTie.lean); close each card by the builder's one call (the guide's Derived/Test/ToyasCard.lean, 'card_holds'). Laid BY PROGRAM, IN A SANDBOX (cutbox-door.mjs). By AI agents, Wed Nov 11 2026. No macro, syntax, notation, axiom, sorry.
-/
import Derived.Test.YtmiboaogfjgkjaaGreatDoorRows
import GoSem.ClaimSeven
namespace Go.Proofs.YtmiboaogfjgkjaaGreatDoor
namespace Rows

/-- THE TIED CARD OF 'laws.FnExactFreshView'. -/
def fnExactFreshViewCard : Claim7 := { stood := { row := fnExactFreshViewRow, standIns := [], harness := (true, "28fa6c139b60d0bef089534e3f733b616826997eea63e36ce81aaf135fd0391f"), looks := false }, kinds := [], alts := [], laidByText := true, laidKinds := [.data, .data, .data, .widerDeep], laidTests := true, laidLooks := .later }
def FnExactFreshViewCardSaid : Prop := Claim7.holds Tryz.pinned (.plain (OpenSpec.ofChange fnExactFreshViewSpec)) fnExactFreshViewCard

/-- THE SECOND FORM's CARD OF 'laws.FnExactFreshView'. -/
def fnExactFreshViewUptoCard : Claim7 := { stood := { row := fnExactFreshViewUptoRow, standIns := [], harness := (true, "28fa6c139b60d0bef089534e3f733b616826997eea63e36ce81aaf135fd0391f"), looks := false }, kinds := [], alts := [], laidByText := true, laidKinds := [.data, .data, .data, .widerDeep], laidTests := true, laidLooks := .later }
def FnExactFreshViewUptoCardSaid : Prop := Claim7.holds Tryz.pinned (.plain (OpenSpec.upto fnExactFreshViewSpec)) fnExactFreshViewUptoCard
end Rows
end Go.Proofs.YtmiboaogfjgkjaaGreatDoor
