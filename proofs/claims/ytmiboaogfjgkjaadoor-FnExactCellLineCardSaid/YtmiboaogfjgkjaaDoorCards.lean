/-
  DERIVED. GIVEN WITH THE SEED: THE CARDS: each row of YtmiboaogfjgkjaaDoorRows.lean that lists a variable, with what it lists TIED to the program's text (the seventh form; the later family's looks); each row that meets fmt, with fmt's text TOLD by the authors' own Lean function (tested against real Go, not proved from fmt's source: count such statements apart). THE CARD IS WHAT COUNTS. Prove the row's statement (the work); the ties are given (YtmiboaogfjgkjaaDoorTie.lean); close each card by the builder's one call (the guide's Derived/Test/ToyasCard.lean, 'card_holds'). Laid BY PROGRAM, IN A SANDBOX (cutbox-door.mjs). By AI agents, Wed Nov 11 2026. No macro, syntax, notation, axiom, sorry.
-/
import Derived.Test.YtmiboaogfjgkjaaDoorRows
import GoSem.ClaimSeven
namespace Go.Proofs.YtmiboaogfjgkjaaDoor
namespace Rows

/-- THE TIED CARD OF 'laws.FnExactFormatView'. -/
def fnExactFormatViewCard : Claim7 := { stood := { row := fnExactFormatViewRow, standIns := [], harness := (true, "e9a33f4f7e1085824c66627809b6e86e469c30e757cb372a09af7a725fcd87e6"), looks := false }, kinds := [], alts := [], laidByText := true, laidKinds := [.data, .data, .data], laidTests := true, laidLooks := .later }
def FnExactFormatViewCardSaid : Prop := Claim7.holds Tryd.pinned (.plain (OpenSpec.ofChange fnExactFormatViewSpec)) fnExactFormatViewCard

/-- THE TIED CARD OF 'laws.FnExactCellLine'. -/
def fnExactCellLineCard : Claim7 := { stood := { row := fnExactCellLineRow, standIns := [], harness := (true, "e9a33f4f7e1085824c66627809b6e86e469c30e757cb372a09af7a725fcd87e6"), looks := false }, kinds := [], alts := [], laidByText := true, laidKinds := [.data, .data, .data, .widerDeep], laidTests := true, laidLooks := .later }
def FnExactCellLineCardSaid : Prop := Claim7.holds Tryd.pinned (.plain (OpenSpec.ofChange fnExactCellLineSpec)) fnExactCellLineCard

/-- THE SECOND FORM's CARD OF 'laws.FnExactFormatView'. -/
def fnExactFormatViewUptoCard : Claim7 := { stood := { row := fnExactFormatViewUptoRow, standIns := [], harness := (true, "e9a33f4f7e1085824c66627809b6e86e469c30e757cb372a09af7a725fcd87e6"), looks := false }, kinds := [], alts := [], laidByText := true, laidKinds := [.data, .data, .data], laidTests := true, laidLooks := .later }
def FnExactFormatViewUptoCardSaid : Prop := Claim7.holds Tryd.pinned (.plain (OpenSpec.upto fnExactFormatViewSpec)) fnExactFormatViewUptoCard

/-- THE SECOND FORM's CARD OF 'laws.FnExactCellLine'. -/
def fnExactCellLineUptoCard : Claim7 := { stood := { row := fnExactCellLineUptoRow, standIns := [], harness := (true, "e9a33f4f7e1085824c66627809b6e86e469c30e757cb372a09af7a725fcd87e6"), looks := false }, kinds := [], alts := [], laidByText := true, laidKinds := [.data, .data, .data, .widerDeep], laidTests := true, laidLooks := .later }
def FnExactCellLineUptoCardSaid : Prop := Claim7.holds Tryd.pinned (.plain (OpenSpec.upto fnExactCellLineSpec)) fnExactCellLineUptoCard
end Rows
end Go.Proofs.YtmiboaogfjgkjaaDoor
