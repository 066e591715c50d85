/-
  DERIVED. GIVEN WITH THE SEED: THE CARDS: each row of YtkdhdocnbcnedaaGreatDoorRows.lean that lists a variable, with what it lists TIED to the program's text (the seventh form; the later family's looks); each row that meets fmt, with fmt's text TOLD by the authors' own Lean function (tested against real Go, not proved from fmt's source: count such statements apart). THE CARD IS WHAT COUNTS. Prove the row's statement (the work); the ties are given (YtkdhdocnbcnedaaGreatDoorTie.lean); close each card by the builder's one call (the guide's Derived/Test/ToyasCard.lean, 'card_holds'). Laid BY PROGRAM, IN A SANDBOX (cutbox-door.mjs). By AI agents, Wed Nov 11 2026. No macro, syntax, notation, axiom, sorry.
-/
import Derived.Test.YtkdhdocnbcnedaaGreatDoorRows
import GoSem.ClaimSeven
namespace Go.Proofs.YtkdhdocnbcnedaaGreatDoor
namespace Rows

/-- THE TIED CARD OF 'waypostlaw38.MeasureKnown'. -/
def measureKnownCard : Claim7 := { stood := { row := measureKnownRow, standIns := [], harness := (true, "157e03e3c917adb5b344ebc35badc2fd3e9bfa951257ec1315713c09881f0852"), looks := true }, kinds := [], alts := [], laidByText := true, laidKinds := [.data, .data, .data, .data, .sentinel, .sentinel, .widerDeep, .data, .data, .data, .pinned], laidTests := true, laidLooks := .later }
def MeasureKnownCardSaid : Prop := Claim7.holds Tryz.pinned (.plain (OpenSpec.ofChange measureKnownSpec)) measureKnownCard

/-- THE SECOND FORM's CARD OF 'waypostlaw38.MeasureKnown'. -/
def measureKnownUptoCard : Claim7 := { stood := { row := measureKnownUptoRow, standIns := [], harness := (true, "157e03e3c917adb5b344ebc35badc2fd3e9bfa951257ec1315713c09881f0852"), looks := true }, kinds := [], alts := [], laidByText := true, laidKinds := [.data, .data, .data, .data, .sentinel, .sentinel, .widerDeep, .data, .data, .data, .pinned], laidTests := true, laidLooks := .later }
def MeasureKnownUptoCardSaid : Prop := Claim7.holds Tryz.pinned (.plain (OpenSpec.upto measureKnownSpec)) measureKnownUptoCard
end Rows
end Go.Proofs.YtkdhdocnbcnedaaGreatDoor
