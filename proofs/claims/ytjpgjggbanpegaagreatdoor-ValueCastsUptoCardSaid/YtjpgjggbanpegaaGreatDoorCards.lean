/-
  DERIVED. GIVEN WITH THE SEED: THE CARDS: each row of YtjpgjggbanpegaaGreatDoorRows.lean that lists a variable, with what it lists TIED to the program's text (the seventh form; the later family's looks); each row that meets fmt, with fmt's text TOLD by the authors' own Lean function (tested against real Go, not proved from fmt's source: count such statements apart). THE CARD IS WHAT COUNTS. Prove the row's statement (the work); the ties are given (YtjpgjggbanpegaaGreatDoorTie.lean); close each card by the builder's one call (the guide's Derived/Test/ToyasCard.lean, 'card_holds'). Laid BY PROGRAM, IN A SANDBOX (cutbox-door.mjs). By AI agents, Wed Nov 11 2026. No macro, syntax, notation, axiom, sorry.
-/
import Derived.Test.YtjpgjggbanpegaaGreatDoorRows
import GoSem.ClaimSeven
namespace Go.Proofs.YtjpgjggbanpegaaGreatDoor
namespace Rows

/-- THE TIED CARD OF 'colonnadelaw02.ValueCasts'. -/
def valueCastsCard : Claim7 := { stood := { row := valueCastsRow, standIns := [], harness := (true, "3a9924d5132b019704feb0bdbe7cd497f86e4bcd5d91ca3971641e1e5f6102cc"), looks := true }, kinds := [], alts := [], laidByText := true, laidKinds := [.data, .data, .data, .data, .sentinel, .sentinel, .pinned], laidTests := true, laidLooks := .later }
def ValueCastsCardSaid : Prop := Claim7.holds Tryz.pinned (.plain (OpenSpec.ofChange valueCastsSpec)) valueCastsCard

/-- THE TIED CARD OF 'colonnadelaw02.ValueBack'. -/
def valueBackCard : Claim7 := { stood := { row := valueBackRow, standIns := [], harness := (true, "3a9924d5132b019704feb0bdbe7cd497f86e4bcd5d91ca3971641e1e5f6102cc"), looks := true }, kinds := [], alts := [], laidByText := true, laidKinds := [.data, .data, .data, .data, .sentinel, .sentinel, .pinned], laidTests := true, laidLooks := .later }
def ValueBackCardSaid : Prop := Claim7.holds Tryz.pinned (.plain (OpenSpec.ofChange valueBackSpec)) valueBackCard

/-- THE SECOND FORM's CARD OF 'colonnadelaw02.ValueCasts'. -/
def valueCastsUptoCard : Claim7 := { stood := { row := valueCastsUptoRow, standIns := [], harness := (true, "3a9924d5132b019704feb0bdbe7cd497f86e4bcd5d91ca3971641e1e5f6102cc"), looks := true }, kinds := [], alts := [], laidByText := true, laidKinds := [.data, .data, .data, .data, .sentinel, .sentinel, .pinned], laidTests := true, laidLooks := .later }
def ValueCastsUptoCardSaid : Prop := Claim7.holds Tryz.pinned (.plain (OpenSpec.upto valueCastsSpec)) valueCastsUptoCard

/-- THE SECOND FORM's CARD OF 'colonnadelaw02.ValueBack'. -/
def valueBackUptoCard : Claim7 := { stood := { row := valueBackUptoRow, standIns := [], harness := (true, "3a9924d5132b019704feb0bdbe7cd497f86e4bcd5d91ca3971641e1e5f6102cc"), looks := true }, kinds := [], alts := [], laidByText := true, laidKinds := [.data, .data, .data, .data, .sentinel, .sentinel, .pinned], laidTests := true, laidLooks := .later }
def ValueBackUptoCardSaid : Prop := Claim7.holds Tryz.pinned (.plain (OpenSpec.upto valueBackSpec)) valueBackUptoCard
end Rows
end Go.Proofs.YtjpgjggbanpegaaGreatDoor
