/-
  DERIVED. GIVEN WITH THE SEED: THE CARDS: each row of YtlfkoimkojbghaaGreatDoorRows.lean that lists a variable, with what it lists TIED to the program's text (the seventh form; the later family's looks); each row that meets fmt, with fmt's text TOLD by the authors' own Lean function (tested against real Go, not proved from fmt's source: count such statements apart). THE CARD IS WHAT COUNTS. Prove the row's statement (the work); the ties are given (YtlfkoimkojbghaaGreatDoorTie.lean); close each card by the builder's one call (the guide's Derived/Test/ToyasCard.lean, 'card_holds'). Laid BY PROGRAM, IN A SANDBOX (cutbox-door.mjs). By AI agents, Wed Nov 11 2026. No macro, syntax, notation, axiom, sorry.
-/
import Derived.Test.YtlfkoimkojbghaaGreatDoorRows
import GoSem.ClaimSeven
namespace Go.Proofs.YtlfkoimkojbghaaGreatDoor
namespace Rows

/-- THE TIED CARD OF 'ostiarylaw16.DohAnswers'. -/
def dohAnswersCard : Claim7 := { stood := { row := dohAnswersRow, standIns := [], harness := (true, "8ed97148cf695f543b42e8b197d9f9524c5ff4ad6ae0d9e6b45b99ec10321482"), looks := true }, kinds := [], alts := [], laidByText := true, laidKinds := [.data, .data, .data, .data, .pinned], laidTests := true, laidLooks := .later }
def DohAnswersCardSaid : Prop := Claim7.holds Tryz.pinned (.plain (OpenSpec.ofChange dohAnswersSpec)) dohAnswersCard

/-- THE TIED CARD OF 'ostiarylaw13.HeadWrites'. -/
def headWritesCard : Claim7 := { stood := { row := headWritesRow, standIns := [], harness := (true, "8ed97148cf695f543b42e8b197d9f9524c5ff4ad6ae0d9e6b45b99ec10321482"), looks := true }, kinds := [], alts := [], laidByText := true, laidKinds := [.data, .data, .data, .data, .pinned], laidTests := true, laidLooks := .later }
def HeadWritesCardSaid : Prop := Claim7.holds Tryz.pinned (.plain (OpenSpec.ofChange headWritesSpec)) headWritesCard

/-- THE TIED CARD OF 'ostiarylaw15.RespReads'. -/
def respReadsCard : Claim7 := { stood := { row := respReadsRow, standIns := [], harness := (true, "8ed97148cf695f543b42e8b197d9f9524c5ff4ad6ae0d9e6b45b99ec10321482"), looks := true }, kinds := [], alts := [], laidByText := true, laidKinds := [.data, .data, .data, .data, .sentinel, .sentinel, .pinned], laidTests := true, laidLooks := .later }
def RespReadsCardSaid : Prop := Claim7.holds Tryz.pinned (.plain (OpenSpec.ofChange respReadsSpec)) respReadsCard

/-- THE TIED CARD OF 'ostiarylaw15.RespBytes'. -/
def respBytesCard : Claim7 := { stood := { row := respBytesRow, standIns := [], harness := (true, "8ed97148cf695f543b42e8b197d9f9524c5ff4ad6ae0d9e6b45b99ec10321482"), looks := true }, kinds := [], alts := [], laidByText := true, laidKinds := [.data, .data, .data, .data, .sentinel, .sentinel, .pinned], laidTests := true, laidLooks := .later }
def RespBytesCardSaid : Prop := Claim7.holds Tryz.pinned (.plain (OpenSpec.ofChange respBytesSpec)) respBytesCard

/-- THE TIED CARD OF 'ostiarylaw15.RespKnown'. -/
def respKnownCard : Claim7 := { stood := { row := respKnownRow, standIns := [], harness := (true, "8ed97148cf695f543b42e8b197d9f9524c5ff4ad6ae0d9e6b45b99ec10321482"), looks := true }, kinds := [], alts := [], laidByText := true, laidKinds := [.data, .data, .data, .data, .sentinel, .sentinel, .pinned], laidTests := true, laidLooks := .later }
def RespKnownCardSaid : Prop := Claim7.holds Tryz.pinned (.plain (OpenSpec.ofChange respKnownSpec)) respKnownCard

/-- THE TIED CARD OF 'ostiarylaw15.RespBack'. -/
def respBackCard : Claim7 := { stood := { row := respBackRow, standIns := [], harness := (true, "8ed97148cf695f543b42e8b197d9f9524c5ff4ad6ae0d9e6b45b99ec10321482"), looks := true }, kinds := [], alts := [], laidByText := true, laidKinds := [.data, .data, .data, .data, .sentinel, .sentinel, .pinned], laidTests := true, laidLooks := .later }
def RespBackCardSaid : Prop := Claim7.holds Tryz.pinned (.plain (OpenSpec.ofChange respBackSpec)) respBackCard

/-- THE TIED CARD OF 'ostiarylaw13.HeadLengths'. -/
def headLengthsCard : Claim7 := { stood := { row := headLengthsRow, standIns := [], harness := (true, "8ed97148cf695f543b42e8b197d9f9524c5ff4ad6ae0d9e6b45b99ec10321482"), looks := true }, kinds := [], alts := [], laidByText := true, laidKinds := [.data, .data, .data, .data, .sentinel, .sentinel, .pinned], laidTests := true, laidLooks := .later }
def HeadLengthsCardSaid : Prop := Claim7.holds Tryz.pinned (.plain (OpenSpec.ofChange headLengthsSpec)) headLengthsCard

/-- THE TIED CARD OF 'ostiarylaw13.HeadTells'. -/
def headTellsCard : Claim7 := { stood := { row := headTellsRow, standIns := [], harness := (true, "8ed97148cf695f543b42e8b197d9f9524c5ff4ad6ae0d9e6b45b99ec10321482"), looks := true }, kinds := [], alts := [], laidByText := true, laidKinds := [.data, .data, .data, .data, .sentinel, .sentinel, .pinned], laidTests := true, laidLooks := .later }
def HeadTellsCardSaid : Prop := Claim7.holds Tryz.pinned (.plain (OpenSpec.ofChange headTellsSpec)) headTellsCard

/-- THE TIED CARD OF 'ostiarylaw13.HeadKnown'. -/
def headKnownCard : Claim7 := { stood := { row := headKnownRow, standIns := [], harness := (true, "8ed97148cf695f543b42e8b197d9f9524c5ff4ad6ae0d9e6b45b99ec10321482"), looks := true }, kinds := [], alts := [], laidByText := true, laidKinds := [.data, .data, .data, .data, .sentinel, .sentinel, .pinned], laidTests := true, laidLooks := .later }
def HeadKnownCardSaid : Prop := Claim7.holds Tryz.pinned (.plain (OpenSpec.ofChange headKnownSpec)) headKnownCard

/-- THE TIED CARD OF 'ostiarylaw13.HeadBack'. -/
def headBackCard : Claim7 := { stood := { row := headBackRow, standIns := [], harness := (true, "8ed97148cf695f543b42e8b197d9f9524c5ff4ad6ae0d9e6b45b99ec10321482"), looks := true }, kinds := [], alts := [], laidByText := true, laidKinds := [.data, .data, .data, .data, .sentinel, .sentinel, .pinned], laidTests := true, laidLooks := .later }
def HeadBackCardSaid : Prop := Claim7.holds Tryz.pinned (.plain (OpenSpec.ofChange headBackSpec)) headBackCard

/-- THE TIED CARD OF 'ostiarylaw14.HttpScript'. -/
def httpScriptCard : Claim7 := { stood := { row := httpScriptRow, standIns := [], harness := (true, "8ed97148cf695f543b42e8b197d9f9524c5ff4ad6ae0d9e6b45b99ec10321482"), looks := true }, kinds := [], alts := [], laidByText := true, laidKinds := [.data, .data, .data, .data, .sentinel, .sentinel, .pinned], laidTests := true, laidLooks := .later }
def HttpScriptCardSaid : Prop := Claim7.holds Tryz.pinned (.plain (OpenSpec.ofChange httpScriptSpec)) httpScriptCard

/-- THE TIED CARD OF 'ostiarylaw14.HttpNone'. -/
def httpNoneCard : Claim7 := { stood := { row := httpNoneRow, standIns := [], harness := (true, "8ed97148cf695f543b42e8b197d9f9524c5ff4ad6ae0d9e6b45b99ec10321482"), looks := true }, kinds := [], alts := [], laidByText := true, laidKinds := [.data, .data, .data, .data, .sentinel, .sentinel, .pinned], laidTests := true, laidLooks := .later }
def HttpNoneCardSaid : Prop := Claim7.holds Tryz.pinned (.plain (OpenSpec.ofChange httpNoneSpec)) httpNoneCard

/-- THE TIED CARD OF 'ostiarylaw14.HttpKnown'. -/
def httpKnownCard : Claim7 := { stood := { row := httpKnownRow, standIns := [], harness := (true, "8ed97148cf695f543b42e8b197d9f9524c5ff4ad6ae0d9e6b45b99ec10321482"), looks := true }, kinds := [], alts := [], laidByText := true, laidKinds := [.data, .data, .data, .data, .sentinel, .sentinel, .pinned], laidTests := true, laidLooks := .later }
def HttpKnownCardSaid : Prop := Claim7.holds Tryz.pinned (.plain (OpenSpec.ofChange httpKnownSpec)) httpKnownCard

/-- THE TIED CARD OF 'ostiarylaw14.HttpCuts'. -/
def httpCutsCard : Claim7 := { stood := { row := httpCutsRow, standIns := [], harness := (true, "8ed97148cf695f543b42e8b197d9f9524c5ff4ad6ae0d9e6b45b99ec10321482"), looks := true }, kinds := [], alts := [], laidByText := true, laidKinds := [.data, .data, .data, .data, .sentinel, .sentinel, .pinned], laidTests := true, laidLooks := .later }
def HttpCutsCardSaid : Prop := Claim7.holds Tryz.pinned (.plain (OpenSpec.ofChange httpCutsSpec)) httpCutsCard

/-- THE TIED CARD OF 'ostiarylaw14.HttpOver'. -/
def httpOverCard : Claim7 := { stood := { row := httpOverRow, standIns := [], harness := (true, "8ed97148cf695f543b42e8b197d9f9524c5ff4ad6ae0d9e6b45b99ec10321482"), looks := true }, kinds := [], alts := [], laidByText := true, laidKinds := [.data, .data, .data, .data, .sentinel, .sentinel, .pinned], laidTests := true, laidLooks := .later }
def HttpOverCardSaid : Prop := Claim7.holds Tryz.pinned (.plain (OpenSpec.ofChange httpOverSpec)) httpOverCard

/-- THE TIED CARD OF 'ostiarylaw14.HttpBack'. -/
def httpBackCard : Claim7 := { stood := { row := httpBackRow, standIns := [], harness := (true, "8ed97148cf695f543b42e8b197d9f9524c5ff4ad6ae0d9e6b45b99ec10321482"), looks := true }, kinds := [], alts := [], laidByText := true, laidKinds := [.data, .data, .data, .data, .sentinel, .sentinel, .pinned], laidTests := true, laidLooks := .later }
def HttpBackCardSaid : Prop := Claim7.holds Tryz.pinned (.plain (OpenSpec.ofChange httpBackSpec)) httpBackCard

/-- THE TIED CARD OF 'ostiarylaw16.DohKnown'. -/
def dohKnownCard : Claim7 := { stood := { row := dohKnownRow, standIns := [], harness := (true, "8ed97148cf695f543b42e8b197d9f9524c5ff4ad6ae0d9e6b45b99ec10321482"), looks := true }, kinds := [], alts := [], laidByText := true, laidKinds := [.data, .data, .data, .data, .sentinel, .sentinel, .pinned], laidTests := true, laidLooks := .later }
def DohKnownCardSaid : Prop := Claim7.holds Tryz.pinned (.plain (OpenSpec.ofChange dohKnownSpec)) dohKnownCard

/-- THE TIED CARD OF 'ostiarylaw16.DohBack'. -/
def dohBackCard : Claim7 := { stood := { row := dohBackRow, standIns := [], harness := (true, "8ed97148cf695f543b42e8b197d9f9524c5ff4ad6ae0d9e6b45b99ec10321482"), looks := true }, kinds := [], alts := [], laidByText := true, laidKinds := [.data, .data, .data, .data, .sentinel, .sentinel, .pinned], laidTests := true, laidLooks := .later }
def DohBackCardSaid : Prop := Claim7.holds Tryz.pinned (.plain (OpenSpec.ofChange dohBackSpec)) dohBackCard

/-- THE SECOND FORM's CARD OF 'ostiarylaw16.DohAnswers'. -/
def dohAnswersUptoCard : Claim7 := { stood := { row := dohAnswersUptoRow, standIns := [], harness := (true, "8ed97148cf695f543b42e8b197d9f9524c5ff4ad6ae0d9e6b45b99ec10321482"), looks := true }, kinds := [], alts := [], laidByText := true, laidKinds := [.data, .data, .data, .data, .pinned], laidTests := true, laidLooks := .later }
def DohAnswersUptoCardSaid : Prop := Claim7.holds Tryz.pinned (.plain (OpenSpec.upto dohAnswersSpec)) dohAnswersUptoCard

/-- THE SECOND FORM's CARD OF 'ostiarylaw13.HeadWrites'. -/
def headWritesUptoCard : Claim7 := { stood := { row := headWritesUptoRow, standIns := [], harness := (true, "8ed97148cf695f543b42e8b197d9f9524c5ff4ad6ae0d9e6b45b99ec10321482"), looks := true }, kinds := [], alts := [], laidByText := true, laidKinds := [.data, .data, .data, .data, .pinned], laidTests := true, laidLooks := .later }
def HeadWritesUptoCardSaid : Prop := Claim7.holds Tryz.pinned (.plain (OpenSpec.upto headWritesSpec)) headWritesUptoCard

/-- THE SECOND FORM's CARD OF 'ostiarylaw15.RespReads'. -/
def respReadsUptoCard : Claim7 := { stood := { row := respReadsUptoRow, standIns := [], harness := (true, "8ed97148cf695f543b42e8b197d9f9524c5ff4ad6ae0d9e6b45b99ec10321482"), looks := true }, kinds := [], alts := [], laidByText := true, laidKinds := [.data, .data, .data, .data, .sentinel, .sentinel, .pinned], laidTests := true, laidLooks := .later }
def RespReadsUptoCardSaid : Prop := Claim7.holds Tryz.pinned (.plain (OpenSpec.upto respReadsSpec)) respReadsUptoCard

/-- THE SECOND FORM's CARD OF 'ostiarylaw15.RespBytes'. -/
def respBytesUptoCard : Claim7 := { stood := { row := respBytesUptoRow, standIns := [], harness := (true, "8ed97148cf695f543b42e8b197d9f9524c5ff4ad6ae0d9e6b45b99ec10321482"), looks := true }, kinds := [], alts := [], laidByText := true, laidKinds := [.data, .data, .data, .data, .sentinel, .sentinel, .pinned], laidTests := true, laidLooks := .later }
def RespBytesUptoCardSaid : Prop := Claim7.holds Tryz.pinned (.plain (OpenSpec.upto respBytesSpec)) respBytesUptoCard

/-- THE SECOND FORM's CARD OF 'ostiarylaw15.RespKnown'. -/
def respKnownUptoCard : Claim7 := { stood := { row := respKnownUptoRow, standIns := [], harness := (true, "8ed97148cf695f543b42e8b197d9f9524c5ff4ad6ae0d9e6b45b99ec10321482"), looks := true }, kinds := [], alts := [], laidByText := true, laidKinds := [.data, .data, .data, .data, .sentinel, .sentinel, .pinned], laidTests := true, laidLooks := .later }
def RespKnownUptoCardSaid : Prop := Claim7.holds Tryz.pinned (.plain (OpenSpec.upto respKnownSpec)) respKnownUptoCard

/-- THE SECOND FORM's CARD OF 'ostiarylaw15.RespBack'. -/
def respBackUptoCard : Claim7 := { stood := { row := respBackUptoRow, standIns := [], harness := (true, "8ed97148cf695f543b42e8b197d9f9524c5ff4ad6ae0d9e6b45b99ec10321482"), looks := true }, kinds := [], alts := [], laidByText := true, laidKinds := [.data, .data, .data, .data, .sentinel, .sentinel, .pinned], laidTests := true, laidLooks := .later }
def RespBackUptoCardSaid : Prop := Claim7.holds Tryz.pinned (.plain (OpenSpec.upto respBackSpec)) respBackUptoCard

/-- THE SECOND FORM's CARD OF 'ostiarylaw13.HeadLengths'. -/
def headLengthsUptoCard : Claim7 := { stood := { row := headLengthsUptoRow, standIns := [], harness := (true, "8ed97148cf695f543b42e8b197d9f9524c5ff4ad6ae0d9e6b45b99ec10321482"), looks := true }, kinds := [], alts := [], laidByText := true, laidKinds := [.data, .data, .data, .data, .sentinel, .sentinel, .pinned], laidTests := true, laidLooks := .later }
def HeadLengthsUptoCardSaid : Prop := Claim7.holds Tryz.pinned (.plain (OpenSpec.upto headLengthsSpec)) headLengthsUptoCard

/-- THE SECOND FORM's CARD OF 'ostiarylaw13.HeadTells'. -/
def headTellsUptoCard : Claim7 := { stood := { row := headTellsUptoRow, standIns := [], harness := (true, "8ed97148cf695f543b42e8b197d9f9524c5ff4ad6ae0d9e6b45b99ec10321482"), looks := true }, kinds := [], alts := [], laidByText := true, laidKinds := [.data, .data, .data, .data, .sentinel, .sentinel, .pinned], laidTests := true, laidLooks := .later }
def HeadTellsUptoCardSaid : Prop := Claim7.holds Tryz.pinned (.plain (OpenSpec.upto headTellsSpec)) headTellsUptoCard

/-- THE SECOND FORM's CARD OF 'ostiarylaw13.HeadKnown'. -/
def headKnownUptoCard : Claim7 := { stood := { row := headKnownUptoRow, standIns := [], harness := (true, "8ed97148cf695f543b42e8b197d9f9524c5ff4ad6ae0d9e6b45b99ec10321482"), looks := true }, kinds := [], alts := [], laidByText := true, laidKinds := [.data, .data, .data, .data, .sentinel, .sentinel, .pinned], laidTests := true, laidLooks := .later }
def HeadKnownUptoCardSaid : Prop := Claim7.holds Tryz.pinned (.plain (OpenSpec.upto headKnownSpec)) headKnownUptoCard

/-- THE SECOND FORM's CARD OF 'ostiarylaw13.HeadBack'. -/
def headBackUptoCard : Claim7 := { stood := { row := headBackUptoRow, standIns := [], harness := (true, "8ed97148cf695f543b42e8b197d9f9524c5ff4ad6ae0d9e6b45b99ec10321482"), looks := true }, kinds := [], alts := [], laidByText := true, laidKinds := [.data, .data, .data, .data, .sentinel, .sentinel, .pinned], laidTests := true, laidLooks := .later }
def HeadBackUptoCardSaid : Prop := Claim7.holds Tryz.pinned (.plain (OpenSpec.upto headBackSpec)) headBackUptoCard

/-- THE SECOND FORM's CARD OF 'ostiarylaw14.HttpScript'. -/
def httpScriptUptoCard : Claim7 := { stood := { row := httpScriptUptoRow, standIns := [], harness := (true, "8ed97148cf695f543b42e8b197d9f9524c5ff4ad6ae0d9e6b45b99ec10321482"), looks := true }, kinds := [], alts := [], laidByText := true, laidKinds := [.data, .data, .data, .data, .sentinel, .sentinel, .pinned], laidTests := true, laidLooks := .later }
def HttpScriptUptoCardSaid : Prop := Claim7.holds Tryz.pinned (.plain (OpenSpec.upto httpScriptSpec)) httpScriptUptoCard

/-- THE SECOND FORM's CARD OF 'ostiarylaw14.HttpNone'. -/
def httpNoneUptoCard : Claim7 := { stood := { row := httpNoneUptoRow, standIns := [], harness := (true, "8ed97148cf695f543b42e8b197d9f9524c5ff4ad6ae0d9e6b45b99ec10321482"), looks := true }, kinds := [], alts := [], laidByText := true, laidKinds := [.data, .data, .data, .data, .sentinel, .sentinel, .pinned], laidTests := true, laidLooks := .later }
def HttpNoneUptoCardSaid : Prop := Claim7.holds Tryz.pinned (.plain (OpenSpec.upto httpNoneSpec)) httpNoneUptoCard

/-- THE SECOND FORM's CARD OF 'ostiarylaw14.HttpKnown'. -/
def httpKnownUptoCard : Claim7 := { stood := { row := httpKnownUptoRow, standIns := [], harness := (true, "8ed97148cf695f543b42e8b197d9f9524c5ff4ad6ae0d9e6b45b99ec10321482"), looks := true }, kinds := [], alts := [], laidByText := true, laidKinds := [.data, .data, .data, .data, .sentinel, .sentinel, .pinned], laidTests := true, laidLooks := .later }
def HttpKnownUptoCardSaid : Prop := Claim7.holds Tryz.pinned (.plain (OpenSpec.upto httpKnownSpec)) httpKnownUptoCard

/-- THE SECOND FORM's CARD OF 'ostiarylaw14.HttpCuts'. -/
def httpCutsUptoCard : Claim7 := { stood := { row := httpCutsUptoRow, standIns := [], harness := (true, "8ed97148cf695f543b42e8b197d9f9524c5ff4ad6ae0d9e6b45b99ec10321482"), looks := true }, kinds := [], alts := [], laidByText := true, laidKinds := [.data, .data, .data, .data, .sentinel, .sentinel, .pinned], laidTests := true, laidLooks := .later }
def HttpCutsUptoCardSaid : Prop := Claim7.holds Tryz.pinned (.plain (OpenSpec.upto httpCutsSpec)) httpCutsUptoCard

/-- THE SECOND FORM's CARD OF 'ostiarylaw14.HttpOver'. -/
def httpOverUptoCard : Claim7 := { stood := { row := httpOverUptoRow, standIns := [], harness := (true, "8ed97148cf695f543b42e8b197d9f9524c5ff4ad6ae0d9e6b45b99ec10321482"), looks := true }, kinds := [], alts := [], laidByText := true, laidKinds := [.data, .data, .data, .data, .sentinel, .sentinel, .pinned], laidTests := true, laidLooks := .later }
def HttpOverUptoCardSaid : Prop := Claim7.holds Tryz.pinned (.plain (OpenSpec.upto httpOverSpec)) httpOverUptoCard

/-- THE SECOND FORM's CARD OF 'ostiarylaw14.HttpBack'. -/
def httpBackUptoCard : Claim7 := { stood := { row := httpBackUptoRow, standIns := [], harness := (true, "8ed97148cf695f543b42e8b197d9f9524c5ff4ad6ae0d9e6b45b99ec10321482"), looks := true }, kinds := [], alts := [], laidByText := true, laidKinds := [.data, .data, .data, .data, .sentinel, .sentinel, .pinned], laidTests := true, laidLooks := .later }
def HttpBackUptoCardSaid : Prop := Claim7.holds Tryz.pinned (.plain (OpenSpec.upto httpBackSpec)) httpBackUptoCard

/-- THE SECOND FORM's CARD OF 'ostiarylaw16.DohKnown'. -/
def dohKnownUptoCard : Claim7 := { stood := { row := dohKnownUptoRow, standIns := [], harness := (true, "8ed97148cf695f543b42e8b197d9f9524c5ff4ad6ae0d9e6b45b99ec10321482"), looks := true }, kinds := [], alts := [], laidByText := true, laidKinds := [.data, .data, .data, .data, .sentinel, .sentinel, .pinned], laidTests := true, laidLooks := .later }
def DohKnownUptoCardSaid : Prop := Claim7.holds Tryz.pinned (.plain (OpenSpec.upto dohKnownSpec)) dohKnownUptoCard

/-- THE SECOND FORM's CARD OF 'ostiarylaw16.DohBack'. -/
def dohBackUptoCard : Claim7 := { stood := { row := dohBackUptoRow, standIns := [], harness := (true, "8ed97148cf695f543b42e8b197d9f9524c5ff4ad6ae0d9e6b45b99ec10321482"), looks := true }, kinds := [], alts := [], laidByText := true, laidKinds := [.data, .data, .data, .data, .sentinel, .sentinel, .pinned], laidTests := true, laidLooks := .later }
def DohBackUptoCardSaid : Prop := Claim7.holds Tryz.pinned (.plain (OpenSpec.upto dohBackSpec)) dohBackUptoCard
end Rows
end Go.Proofs.YtlfkoimkojbghaaGreatDoor
