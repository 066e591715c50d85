/-
  DERIVED. GIVEN WITH THE SEED: THE CARDS: each row of YtooedghheiecnaaGreatDoorRows.lean that lists a variable, with what it lists TIED to the program's text (the seventh form; the later family's looks); each row that meets fmt, with fmt's text TOLD by the authors' own Lean function (tested against real Go, not proved from fmt's source: count such statements apart). THE CARD IS WHAT COUNTS. Prove the row's statement (the work); the ties are given (YtooedghheiecnaaGreatDoorTie.lean); close each card by the builder's one call (the guide's Derived/Test/ToyasCard.lean, 'card_holds'). Laid BY PROGRAM, IN A SANDBOX (cutbox-door.mjs). By AI agents, Wed Nov 11 2026. No macro, syntax, notation, axiom, sorry.
-/
import Derived.Test.YtooedghheiecnaaGreatDoorRows
import GoSem.ClaimSeven
namespace Go.Proofs.YtooedghheiecnaaGreatDoor
namespace Rows

/-- THE TIED CARD OF 'waypostlaw39.CertBack'. -/
def certBackCard : Claim7 := { stood := { row := certBackRow, standIns := [], harness := (true, "e9f2a32ee7bbbcb2d82e5bbd590295490994e3da470f60b7b424d1e011de8ca9"), looks := true }, kinds := [], alts := [], laidByText := true, laidKinds := [.data, .data, .data, .data, .sentinel, .sentinel, .widerDeep, .data, .data, .data, .pinned], laidTests := true, laidLooks := .later }
def CertBackCardSaid : Prop := Claim7.holds Tryz.pinned (.plain (OpenSpec.ofChange certBackSpec)) certBackCard

/-- THE TIED CARD OF 'waypostlaw39.CertKnown'. -/
def certKnownCard : Claim7 := { stood := { row := certKnownRow, standIns := [], harness := (true, "e9f2a32ee7bbbcb2d82e5bbd590295490994e3da470f60b7b424d1e011de8ca9"), looks := true }, kinds := [], alts := [], laidByText := true, laidKinds := [.data, .data, .data, .data, .sentinel, .sentinel, .widerDeep, .data, .data, .data, .pinned], laidTests := true, laidLooks := .later }
def CertKnownCardSaid : Prop := Claim7.holds Tryz.pinned (.plain (OpenSpec.ofChange certKnownSpec)) certKnownCard

/-- THE SECOND FORM's CARD OF 'waypostlaw39.CertBack'. -/
def certBackUptoCard : Claim7 := { stood := { row := certBackUptoRow, standIns := [], harness := (true, "e9f2a32ee7bbbcb2d82e5bbd590295490994e3da470f60b7b424d1e011de8ca9"), looks := true }, kinds := [], alts := [], laidByText := true, laidKinds := [.data, .data, .data, .data, .sentinel, .sentinel, .widerDeep, .data, .data, .data, .pinned], laidTests := true, laidLooks := .later }
def CertBackUptoCardSaid : Prop := Claim7.holds Tryz.pinned (.plain (OpenSpec.upto certBackSpec)) certBackUptoCard

/-- THE SECOND FORM's CARD OF 'waypostlaw39.CertKnown'. -/
def certKnownUptoCard : Claim7 := { stood := { row := certKnownUptoRow, standIns := [], harness := (true, "e9f2a32ee7bbbcb2d82e5bbd590295490994e3da470f60b7b424d1e011de8ca9"), looks := true }, kinds := [], alts := [], laidByText := true, laidKinds := [.data, .data, .data, .data, .sentinel, .sentinel, .widerDeep, .data, .data, .data, .pinned], laidTests := true, laidLooks := .later }
def CertKnownUptoCardSaid : Prop := Claim7.holds Tryz.pinned (.plain (OpenSpec.upto certKnownSpec)) certKnownUptoCard
end Rows
end Go.Proofs.YtooedghheiecnaaGreatDoor
