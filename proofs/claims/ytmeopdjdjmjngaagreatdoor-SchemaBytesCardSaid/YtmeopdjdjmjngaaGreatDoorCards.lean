/-
  DERIVED. GIVEN WITH THE SEED: THE CARDS: each row of YtmeopdjdjmjngaaGreatDoorRows.lean that lists a variable, with what it lists TIED to the program's text (the seventh form; the later family's looks); each row that meets fmt, with fmt's text TOLD by the authors' own Lean function (tested against real Go, not proved from fmt's source: count such statements apart). THE CARD IS WHAT COUNTS. Prove the row's statement (the work); the ties are given (YtmeopdjdjmjngaaGreatDoorTie.lean); close each card by the builder's one call (the guide's Derived/Test/ToyasCard.lean, 'card_holds'). Laid BY PROGRAM, IN A SANDBOX (cutbox-door.mjs). By AI agents, Wed Nov 11 2026. No macro, syntax, notation, axiom, sorry.
-/
import Derived.Test.YtmeopdjdjmjngaaGreatDoorRows
import GoSem.ClaimSeven
namespace Go.Proofs.YtmeopdjdjmjngaaGreatDoor
namespace Rows

/-- THE TIED CARD OF 'colonnadelaw11.SchemaFits'. -/
def schemaFitsCard : Claim7 := { stood := { row := schemaFitsRow, standIns := [], harness := (true, "340a73ac2e68413d26eb5b751f191218596df36345d0788e08aeb7d0db841f5c"), looks := true }, kinds := [], alts := [], laidByText := true, laidKinds := [.data, .data, .data, .data, .sentinel, .sentinel, .pinned], laidTests := true, laidLooks := .later }
def SchemaFitsCardSaid : Prop := Claim7.holds Tryz.pinned (.plain (OpenSpec.ofChange schemaFitsSpec)) schemaFitsCard

/-- THE TIED CARD OF 'colonnadelaw11.SchemaShows'. -/
def schemaShowsCard : Claim7 := { stood := { row := schemaShowsRow, standIns := [], harness := (true, "340a73ac2e68413d26eb5b751f191218596df36345d0788e08aeb7d0db841f5c"), looks := true }, kinds := [], alts := [], laidByText := true, laidKinds := [.data, .data, .data, .data, .sentinel, .sentinel, .pinned], laidTests := true, laidLooks := .later }
def SchemaShowsCardSaid : Prop := Claim7.holds Tryz.pinned (.plain (OpenSpec.ofChange schemaShowsSpec)) schemaShowsCard

/-- THE TIED CARD OF 'colonnadelaw11.SchemaAgain'. -/
def schemaAgainCard : Claim7 := { stood := { row := schemaAgainRow, standIns := [], harness := (true, "340a73ac2e68413d26eb5b751f191218596df36345d0788e08aeb7d0db841f5c"), looks := true }, kinds := [], alts := [], laidByText := true, laidKinds := [.data, .data, .data, .data, .sentinel, .sentinel, .pinned], laidTests := true, laidLooks := .later }
def SchemaAgainCardSaid : Prop := Claim7.holds Tryz.pinned (.plain (OpenSpec.ofChange schemaAgainSpec)) schemaAgainCard

/-- THE TIED CARD OF 'colonnadelaw11.SchemaChecks'. -/
def schemaChecksCard : Claim7 := { stood := { row := schemaChecksRow, standIns := [], harness := (true, "340a73ac2e68413d26eb5b751f191218596df36345d0788e08aeb7d0db841f5c"), looks := true }, kinds := [], alts := [], laidByText := true, laidKinds := [.data, .data, .data, .data, .sentinel, .sentinel, .pinned], laidTests := true, laidLooks := .later }
def SchemaChecksCardSaid : Prop := Claim7.holds Tryz.pinned (.plain (OpenSpec.ofChange schemaChecksSpec)) schemaChecksCard

/-- THE TIED CARD OF 'colonnadelaw11.SchemaUndoes'. -/
def schemaUndoesCard : Claim7 := { stood := { row := schemaUndoesRow, standIns := [], harness := (true, "340a73ac2e68413d26eb5b751f191218596df36345d0788e08aeb7d0db841f5c"), looks := true }, kinds := [], alts := [], laidByText := true, laidKinds := [.data, .data, .data, .data, .sentinel, .sentinel, .pinned], laidTests := true, laidLooks := .later }
def SchemaUndoesCardSaid : Prop := Claim7.holds Tryz.pinned (.plain (OpenSpec.ofChange schemaUndoesSpec)) schemaUndoesCard

/-- THE TIED CARD OF 'colonnadelaw11.SchemaBytes'. -/
def schemaBytesCard : Claim7 := { stood := { row := schemaBytesRow, standIns := [], harness := (true, "340a73ac2e68413d26eb5b751f191218596df36345d0788e08aeb7d0db841f5c"), looks := true }, kinds := [], alts := [], laidByText := true, laidKinds := [.data, .data, .data, .data, .sentinel, .sentinel, .pinned], laidTests := true, laidLooks := .later }
def SchemaBytesCardSaid : Prop := Claim7.holds Tryz.pinned (.plain (OpenSpec.ofChange schemaBytesSpec)) schemaBytesCard

/-- THE TIED CARD OF 'colonnadelaw11.SchemaBack'. -/
def schemaBackCard : Claim7 := { stood := { row := schemaBackRow, standIns := [], harness := (true, "340a73ac2e68413d26eb5b751f191218596df36345d0788e08aeb7d0db841f5c"), looks := true }, kinds := [], alts := [], laidByText := true, laidKinds := [.data, .data, .data, .data, .sentinel, .sentinel, .pinned], laidTests := true, laidLooks := .later }
def SchemaBackCardSaid : Prop := Claim7.holds Tryz.pinned (.plain (OpenSpec.ofChange schemaBackSpec)) schemaBackCard

/-- THE SECOND FORM's CARD OF 'colonnadelaw11.SchemaFits'. -/
def schemaFitsUptoCard : Claim7 := { stood := { row := schemaFitsUptoRow, standIns := [], harness := (true, "340a73ac2e68413d26eb5b751f191218596df36345d0788e08aeb7d0db841f5c"), looks := true }, kinds := [], alts := [], laidByText := true, laidKinds := [.data, .data, .data, .data, .sentinel, .sentinel, .pinned], laidTests := true, laidLooks := .later }
def SchemaFitsUptoCardSaid : Prop := Claim7.holds Tryz.pinned (.plain (OpenSpec.upto schemaFitsSpec)) schemaFitsUptoCard

/-- THE SECOND FORM's CARD OF 'colonnadelaw11.SchemaShows'. -/
def schemaShowsUptoCard : Claim7 := { stood := { row := schemaShowsUptoRow, standIns := [], harness := (true, "340a73ac2e68413d26eb5b751f191218596df36345d0788e08aeb7d0db841f5c"), looks := true }, kinds := [], alts := [], laidByText := true, laidKinds := [.data, .data, .data, .data, .sentinel, .sentinel, .pinned], laidTests := true, laidLooks := .later }
def SchemaShowsUptoCardSaid : Prop := Claim7.holds Tryz.pinned (.plain (OpenSpec.upto schemaShowsSpec)) schemaShowsUptoCard

/-- THE SECOND FORM's CARD OF 'colonnadelaw11.SchemaAgain'. -/
def schemaAgainUptoCard : Claim7 := { stood := { row := schemaAgainUptoRow, standIns := [], harness := (true, "340a73ac2e68413d26eb5b751f191218596df36345d0788e08aeb7d0db841f5c"), looks := true }, kinds := [], alts := [], laidByText := true, laidKinds := [.data, .data, .data, .data, .sentinel, .sentinel, .pinned], laidTests := true, laidLooks := .later }
def SchemaAgainUptoCardSaid : Prop := Claim7.holds Tryz.pinned (.plain (OpenSpec.upto schemaAgainSpec)) schemaAgainUptoCard

/-- THE SECOND FORM's CARD OF 'colonnadelaw11.SchemaChecks'. -/
def schemaChecksUptoCard : Claim7 := { stood := { row := schemaChecksUptoRow, standIns := [], harness := (true, "340a73ac2e68413d26eb5b751f191218596df36345d0788e08aeb7d0db841f5c"), looks := true }, kinds := [], alts := [], laidByText := true, laidKinds := [.data, .data, .data, .data, .sentinel, .sentinel, .pinned], laidTests := true, laidLooks := .later }
def SchemaChecksUptoCardSaid : Prop := Claim7.holds Tryz.pinned (.plain (OpenSpec.upto schemaChecksSpec)) schemaChecksUptoCard

/-- THE SECOND FORM's CARD OF 'colonnadelaw11.SchemaUndoes'. -/
def schemaUndoesUptoCard : Claim7 := { stood := { row := schemaUndoesUptoRow, standIns := [], harness := (true, "340a73ac2e68413d26eb5b751f191218596df36345d0788e08aeb7d0db841f5c"), looks := true }, kinds := [], alts := [], laidByText := true, laidKinds := [.data, .data, .data, .data, .sentinel, .sentinel, .pinned], laidTests := true, laidLooks := .later }
def SchemaUndoesUptoCardSaid : Prop := Claim7.holds Tryz.pinned (.plain (OpenSpec.upto schemaUndoesSpec)) schemaUndoesUptoCard

/-- THE SECOND FORM's CARD OF 'colonnadelaw11.SchemaBytes'. -/
def schemaBytesUptoCard : Claim7 := { stood := { row := schemaBytesUptoRow, standIns := [], harness := (true, "340a73ac2e68413d26eb5b751f191218596df36345d0788e08aeb7d0db841f5c"), looks := true }, kinds := [], alts := [], laidByText := true, laidKinds := [.data, .data, .data, .data, .sentinel, .sentinel, .pinned], laidTests := true, laidLooks := .later }
def SchemaBytesUptoCardSaid : Prop := Claim7.holds Tryz.pinned (.plain (OpenSpec.upto schemaBytesSpec)) schemaBytesUptoCard

/-- THE SECOND FORM's CARD OF 'colonnadelaw11.SchemaBack'. -/
def schemaBackUptoCard : Claim7 := { stood := { row := schemaBackUptoRow, standIns := [], harness := (true, "340a73ac2e68413d26eb5b751f191218596df36345d0788e08aeb7d0db841f5c"), looks := true }, kinds := [], alts := [], laidByText := true, laidKinds := [.data, .data, .data, .data, .sentinel, .sentinel, .pinned], laidTests := true, laidLooks := .later }
def SchemaBackUptoCardSaid : Prop := Claim7.holds Tryz.pinned (.plain (OpenSpec.upto schemaBackSpec)) schemaBackUptoCard
end Rows
end Go.Proofs.YtmeopdjdjmjngaaGreatDoor
