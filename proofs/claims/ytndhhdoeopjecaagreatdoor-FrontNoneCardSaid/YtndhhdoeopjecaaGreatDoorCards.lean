/-
  DERIVED. GIVEN WITH THE SEED: THE CARDS: each row of YtndhhdoeopjecaaGreatDoorRows.lean that lists a variable, with what it lists TIED to the program's text (the seventh form; the later family's looks); each row that meets fmt, with fmt's text TOLD by the authors' own Lean function (tested against real Go, not proved from fmt's source: count such statements apart). THE CARD IS WHAT COUNTS. Prove the row's statement (the work); the ties are given (YtndhhdoeopjecaaGreatDoorTie.lean); close each card by the builder's one call (the guide's Derived/Test/ToyasCard.lean, 'card_holds'). Laid BY PROGRAM, IN A SANDBOX (cutbox-door.mjs). By AI agents, Wed Nov 11 2026. No macro, syntax, notation, axiom, sorry.
-/
import Derived.Test.YtndhhdoeopjecaaGreatDoorRows
import GoSem.ClaimSeven
namespace Go.Proofs.YtndhhdoeopjecaaGreatDoor
namespace Rows

/-- THE TIED CARD OF 'ostiarylaw30.FrontKnown'. -/
def frontKnownCard : Claim7 := { stood := { row := frontKnownRow, standIns := [], harness := (true, "b332d728116609f5520001c20b9cde00f676bf43d119166f745cd25bcb26e50e"), looks := true }, kinds := [], alts := [], laidByText := true, laidKinds := [.pinned, .data, .sentinel, .sentinel, .data, .data, .data], laidTests := true, laidLooks := .later }
def FrontKnownCardSaid : Prop := Claim7.holds Tryz.pinned (.plain (OpenSpec.ofChange frontKnownSpec)) frontKnownCard

/-- THE TIED CARD OF 'ostiarylaw30.FrontNone'. -/
def frontNoneCard : Claim7 := { stood := { row := frontNoneRow, standIns := [], harness := (true, "b332d728116609f5520001c20b9cde00f676bf43d119166f745cd25bcb26e50e"), looks := true }, kinds := [], alts := [], laidByText := true, laidKinds := [.pinned, .data, .sentinel, .sentinel, .data, .data, .data], laidTests := true, laidLooks := .later }
def FrontNoneCardSaid : Prop := Claim7.holds Tryz.pinned (.plain (OpenSpec.ofChange frontNoneSpec)) frontNoneCard

/-- THE SECOND FORM's CARD OF 'ostiarylaw30.FrontKnown'. -/
def frontKnownUptoCard : Claim7 := { stood := { row := frontKnownUptoRow, standIns := [], harness := (true, "b332d728116609f5520001c20b9cde00f676bf43d119166f745cd25bcb26e50e"), looks := true }, kinds := [], alts := [], laidByText := true, laidKinds := [.pinned, .data, .sentinel, .sentinel, .data, .data, .data], laidTests := true, laidLooks := .later }
def FrontKnownUptoCardSaid : Prop := Claim7.holds Tryz.pinned (.plain (OpenSpec.upto frontKnownSpec)) frontKnownUptoCard

/-- THE SECOND FORM's CARD OF 'ostiarylaw30.FrontNone'. -/
def frontNoneUptoCard : Claim7 := { stood := { row := frontNoneUptoRow, standIns := [], harness := (true, "b332d728116609f5520001c20b9cde00f676bf43d119166f745cd25bcb26e50e"), looks := true }, kinds := [], alts := [], laidByText := true, laidKinds := [.pinned, .data, .sentinel, .sentinel, .data, .data, .data], laidTests := true, laidLooks := .later }
def FrontNoneUptoCardSaid : Prop := Claim7.holds Tryz.pinned (.plain (OpenSpec.upto frontNoneSpec)) frontNoneUptoCard
end Rows
end Go.Proofs.YtndhhdoeopjecaaGreatDoor
