/-
  DERIVED. GIVEN WITH THE SEED: THE CARDS: each row of YtbfabhdfmoiabaaGreatDoorRows.lean that lists a variable, with what it lists TIED to the program's text (the seventh form; the later family's looks); each row that meets fmt, with fmt's text TOLD by the authors' own Lean function (tested against real Go, not proved from fmt's source: count such statements apart). THE CARD IS WHAT COUNTS. Prove the row's statement (the work); the ties are given (YtbfabhdfmoiabaaGreatDoorTie.lean); close each card by the builder's one call (the guide's Derived/Test/ToyasCard.lean, 'card_holds'). Laid BY PROGRAM, IN A SANDBOX (cutbox-door.mjs). By AI agents, Wed Nov 11 2026. No macro, syntax, notation, axiom, sorry.
-/
import Derived.Test.YtbfabhdfmoiabaaGreatDoorRows
import GoSem.ClaimSeven
namespace Go.Proofs.YtbfabhdfmoiabaaGreatDoor
namespace Rows

/-- THE TIED CARD OF 'ostiarylaw28.ConnStreams'. -/
def connStreamsCard : Claim7 := { stood := { row := connStreamsRow, standIns := [], harness := (true, "4d7236934a5e150e4f60b1c5740cbdbb30286df2378f98f26f0a6889d248b4a5"), looks := true }, kinds := [], alts := [], laidByText := true, laidKinds := [.data, .data, .data, .data, .sentinel, .sentinel, .pinned], laidTests := true, laidLooks := .later }
def ConnStreamsCardSaid : Prop := Claim7.holds Tryz.pinned (.plain (OpenSpec.ofChange connStreamsSpec)) connStreamsCard

/-- THE TIED CARD OF 'ostiarylaw28.ConnIdle'. -/
def connIdleCard : Claim7 := { stood := { row := connIdleRow, standIns := [], harness := (true, "4d7236934a5e150e4f60b1c5740cbdbb30286df2378f98f26f0a6889d248b4a5"), looks := true }, kinds := [], alts := [], laidByText := true, laidKinds := [.data, .data, .data, .data, .sentinel, .sentinel, .pinned], laidTests := true, laidLooks := .later }
def ConnIdleCardSaid : Prop := Claim7.holds Tryz.pinned (.plain (OpenSpec.ofChange connIdleSpec)) connIdleCard

/-- THE TIED CARD OF 'ostiarylaw28.ConnKnown'. -/
def connKnownCard : Claim7 := { stood := { row := connKnownRow, standIns := [], harness := (true, "4d7236934a5e150e4f60b1c5740cbdbb30286df2378f98f26f0a6889d248b4a5"), looks := true }, kinds := [], alts := [], laidByText := true, laidKinds := [.data, .data, .data, .data, .sentinel, .sentinel, .pinned], laidTests := true, laidLooks := .later }
def ConnKnownCardSaid : Prop := Claim7.holds Tryz.pinned (.plain (OpenSpec.ofChange connKnownSpec)) connKnownCard

/-- THE TIED CARD OF 'ostiarylaw28.ConnNone'. -/
def connNoneCard : Claim7 := { stood := { row := connNoneRow, standIns := [], harness := (true, "4d7236934a5e150e4f60b1c5740cbdbb30286df2378f98f26f0a6889d248b4a5"), looks := true }, kinds := [], alts := [], laidByText := true, laidKinds := [.data, .data, .data, .data, .sentinel, .sentinel, .pinned], laidTests := true, laidLooks := .later }
def ConnNoneCardSaid : Prop := Claim7.holds Tryz.pinned (.plain (OpenSpec.ofChange connNoneSpec)) connNoneCard

/-- THE TIED CARD OF 'ostiarylaw28.ConnNumbers'. -/
def connNumbersCard : Claim7 := { stood := { row := connNumbersRow, standIns := [], harness := (true, "4d7236934a5e150e4f60b1c5740cbdbb30286df2378f98f26f0a6889d248b4a5"), looks := true }, kinds := [], alts := [], laidByText := true, laidKinds := [.data, .data, .data, .data, .sentinel, .sentinel, .pinned], laidTests := true, laidLooks := .later }
def ConnNumbersCardSaid : Prop := Claim7.holds Tryz.pinned (.plain (OpenSpec.ofChange connNumbersSpec)) connNumbersCard

/-- THE SECOND FORM's CARD OF 'ostiarylaw28.ConnStreams'. -/
def connStreamsUptoCard : Claim7 := { stood := { row := connStreamsUptoRow, standIns := [], harness := (true, "4d7236934a5e150e4f60b1c5740cbdbb30286df2378f98f26f0a6889d248b4a5"), looks := true }, kinds := [], alts := [], laidByText := true, laidKinds := [.data, .data, .data, .data, .sentinel, .sentinel, .pinned], laidTests := true, laidLooks := .later }
def ConnStreamsUptoCardSaid : Prop := Claim7.holds Tryz.pinned (.plain (OpenSpec.upto connStreamsSpec)) connStreamsUptoCard

/-- THE SECOND FORM's CARD OF 'ostiarylaw28.ConnIdle'. -/
def connIdleUptoCard : Claim7 := { stood := { row := connIdleUptoRow, standIns := [], harness := (true, "4d7236934a5e150e4f60b1c5740cbdbb30286df2378f98f26f0a6889d248b4a5"), looks := true }, kinds := [], alts := [], laidByText := true, laidKinds := [.data, .data, .data, .data, .sentinel, .sentinel, .pinned], laidTests := true, laidLooks := .later }
def ConnIdleUptoCardSaid : Prop := Claim7.holds Tryz.pinned (.plain (OpenSpec.upto connIdleSpec)) connIdleUptoCard

/-- THE SECOND FORM's CARD OF 'ostiarylaw28.ConnKnown'. -/
def connKnownUptoCard : Claim7 := { stood := { row := connKnownUptoRow, standIns := [], harness := (true, "4d7236934a5e150e4f60b1c5740cbdbb30286df2378f98f26f0a6889d248b4a5"), looks := true }, kinds := [], alts := [], laidByText := true, laidKinds := [.data, .data, .data, .data, .sentinel, .sentinel, .pinned], laidTests := true, laidLooks := .later }
def ConnKnownUptoCardSaid : Prop := Claim7.holds Tryz.pinned (.plain (OpenSpec.upto connKnownSpec)) connKnownUptoCard

/-- THE SECOND FORM's CARD OF 'ostiarylaw28.ConnNone'. -/
def connNoneUptoCard : Claim7 := { stood := { row := connNoneUptoRow, standIns := [], harness := (true, "4d7236934a5e150e4f60b1c5740cbdbb30286df2378f98f26f0a6889d248b4a5"), looks := true }, kinds := [], alts := [], laidByText := true, laidKinds := [.data, .data, .data, .data, .sentinel, .sentinel, .pinned], laidTests := true, laidLooks := .later }
def ConnNoneUptoCardSaid : Prop := Claim7.holds Tryz.pinned (.plain (OpenSpec.upto connNoneSpec)) connNoneUptoCard

/-- THE SECOND FORM's CARD OF 'ostiarylaw28.ConnNumbers'. -/
def connNumbersUptoCard : Claim7 := { stood := { row := connNumbersUptoRow, standIns := [], harness := (true, "4d7236934a5e150e4f60b1c5740cbdbb30286df2378f98f26f0a6889d248b4a5"), looks := true }, kinds := [], alts := [], laidByText := true, laidKinds := [.data, .data, .data, .data, .sentinel, .sentinel, .pinned], laidTests := true, laidLooks := .later }
def ConnNumbersUptoCardSaid : Prop := Claim7.holds Tryz.pinned (.plain (OpenSpec.upto connNumbersSpec)) connNumbersUptoCard
end Rows
end Go.Proofs.YtbfabhdfmoiabaaGreatDoor
