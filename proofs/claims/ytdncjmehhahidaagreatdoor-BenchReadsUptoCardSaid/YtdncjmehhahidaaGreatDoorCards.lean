/-
  DERIVED. GIVEN WITH THE SEED: THE CARDS: each row of YtdncjmehhahidaaGreatDoorRows.lean that lists a variable, with what it lists TIED to the program's text (the seventh form; the later family's looks); each row that meets fmt, with fmt's text TOLD by the authors' own Lean function (tested against real Go, not proved from fmt's source: count such statements apart). THE CARD IS WHAT COUNTS. Prove the row's statement (the work); the ties are given (YtdncjmehhahidaaGreatDoorTie.lean); close each card by the builder's one call (the guide's Derived/Test/ToyasCard.lean, 'card_holds'). Laid BY PROGRAM, IN A SANDBOX (cutbox-door.mjs). By AI agents, Wed Nov 11 2026. No macro, syntax, notation, axiom, sorry.
-/
import Derived.Test.YtdncjmehhahidaaGreatDoorRows
import GoSem.ClaimSeven
namespace Go.Proofs.YtdncjmehhahidaaGreatDoor
namespace Rows

/-- THE TIED CARD OF 'ostiarylaw30.FrontNone'. -/
def frontNoneCard : Claim7 := { stood := { row := frontNoneRow, standIns := [], harness := (true, "0407d82ba0e12436fa12fcec87ac83b18c854b01f82920dc8001d9f9f3be07b0"), looks := true }, kinds := [], alts := [], laidByText := true, laidKinds := [.pinned, .data, .sentinel, .sentinel, .data, .data, .data], laidTests := true, laidLooks := .later }
def FrontNoneCardSaid : Prop := Claim7.holds Tryz.pinned (.plain (OpenSpec.ofChange frontNoneSpec)) frontNoneCard

/-- THE TIED CARD OF 'ostiarylaw32.BenchNone'. -/
def benchNoneCard : Claim7 := { stood := { row := benchNoneRow, standIns := [], harness := (true, "0407d82ba0e12436fa12fcec87ac83b18c854b01f82920dc8001d9f9f3be07b0"), looks := true }, kinds := [], alts := [], laidByText := true, laidKinds := [.pinned, .data, .sentinel, .sentinel, .data, .data, .data], laidTests := true, laidLooks := .later }
def BenchNoneCardSaid : Prop := Claim7.holds Tryz.pinned (.plain (OpenSpec.ofChange benchNoneSpec)) benchNoneCard

/-- THE TIED CARD OF 'ostiarylaw32.BenchKnown'. -/
def benchKnownCard : Claim7 := { stood := { row := benchKnownRow, standIns := [], harness := (true, "0407d82ba0e12436fa12fcec87ac83b18c854b01f82920dc8001d9f9f3be07b0"), looks := true }, kinds := [], alts := [], laidByText := true, laidKinds := [.pinned, .data, .sentinel, .sentinel, .data, .data, .data], laidTests := true, laidLooks := .later }
def BenchKnownCardSaid : Prop := Claim7.holds Tryz.pinned (.plain (OpenSpec.ofChange benchKnownSpec)) benchKnownCard

/-- THE TIED CARD OF 'ostiarylaw32.BenchReads'. -/
def benchReadsCard : Claim7 := { stood := { row := benchReadsRow, standIns := [], harness := (true, "0407d82ba0e12436fa12fcec87ac83b18c854b01f82920dc8001d9f9f3be07b0"), looks := true }, kinds := [], alts := [], laidByText := true, laidKinds := [.pinned, .data, .sentinel, .sentinel, .data, .data, .data], laidTests := true, laidLooks := .later }
def BenchReadsCardSaid : Prop := Claim7.holds Tryz.pinned (.plain (OpenSpec.ofChange benchReadsSpec)) benchReadsCard

/-- THE SECOND FORM's CARD OF 'ostiarylaw30.FrontNone'. -/
def frontNoneUptoCard : Claim7 := { stood := { row := frontNoneUptoRow, standIns := [], harness := (true, "0407d82ba0e12436fa12fcec87ac83b18c854b01f82920dc8001d9f9f3be07b0"), looks := true }, kinds := [], alts := [], laidByText := true, laidKinds := [.pinned, .data, .sentinel, .sentinel, .data, .data, .data], laidTests := true, laidLooks := .later }
def FrontNoneUptoCardSaid : Prop := Claim7.holds Tryz.pinned (.plain (OpenSpec.upto frontNoneSpec)) frontNoneUptoCard

/-- THE SECOND FORM's CARD OF 'ostiarylaw32.BenchNone'. -/
def benchNoneUptoCard : Claim7 := { stood := { row := benchNoneUptoRow, standIns := [], harness := (true, "0407d82ba0e12436fa12fcec87ac83b18c854b01f82920dc8001d9f9f3be07b0"), looks := true }, kinds := [], alts := [], laidByText := true, laidKinds := [.pinned, .data, .sentinel, .sentinel, .data, .data, .data], laidTests := true, laidLooks := .later }
def BenchNoneUptoCardSaid : Prop := Claim7.holds Tryz.pinned (.plain (OpenSpec.upto benchNoneSpec)) benchNoneUptoCard

/-- THE SECOND FORM's CARD OF 'ostiarylaw32.BenchKnown'. -/
def benchKnownUptoCard : Claim7 := { stood := { row := benchKnownUptoRow, standIns := [], harness := (true, "0407d82ba0e12436fa12fcec87ac83b18c854b01f82920dc8001d9f9f3be07b0"), looks := true }, kinds := [], alts := [], laidByText := true, laidKinds := [.pinned, .data, .sentinel, .sentinel, .data, .data, .data], laidTests := true, laidLooks := .later }
def BenchKnownUptoCardSaid : Prop := Claim7.holds Tryz.pinned (.plain (OpenSpec.upto benchKnownSpec)) benchKnownUptoCard

/-- THE SECOND FORM's CARD OF 'ostiarylaw32.BenchReads'. -/
def benchReadsUptoCard : Claim7 := { stood := { row := benchReadsUptoRow, standIns := [], harness := (true, "0407d82ba0e12436fa12fcec87ac83b18c854b01f82920dc8001d9f9f3be07b0"), looks := true }, kinds := [], alts := [], laidByText := true, laidKinds := [.pinned, .data, .sentinel, .sentinel, .data, .data, .data], laidTests := true, laidLooks := .later }
def BenchReadsUptoCardSaid : Prop := Claim7.holds Tryz.pinned (.plain (OpenSpec.upto benchReadsSpec)) benchReadsUptoCard
end Rows
end Go.Proofs.YtdncjmehhahidaaGreatDoor
