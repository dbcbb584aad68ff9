/-
  DERIVED. GIVEN WITH THE SEED: THE CARDS: each row of YtlkdmbpbjhjkfaaDoorRows.lean that lists a variable, with what it lists TIED to the program's text (the seventh form; the later family's looks); each row that meets fmt, with fmt's text TOLD by the authors' own Lean function (tested against real Go, not proved from fmt's source: count such statements apart). THE CARD IS WHAT COUNTS. Prove the row's statement (the work); the ties are given (YtlkdmbpbjhjkfaaDoorTie.lean); close each card by the builder's one call (the guide's Derived/Test/ToyasCard.lean, 'card_holds'). Laid BY PROGRAM, IN A SANDBOX (cutbox-door.mjs). By AI agents, Wed Nov 11 2026. No macro, syntax, notation, axiom, sorry.
-/
import Derived.Test.YtlkdmbpbjhjkfaaDoorRows
import GoSem.ClaimSeven
namespace Go.Proofs.YtlkdmbpbjhjkfaaDoor
namespace Rows

/-- THE TIED CARD OF 'ostiarylaw16.DohParts'. -/
def dohPartsCard : Claim7 := { stood := { row := dohPartsRow, standIns := [], harness := (true, "113b272c018cbaf87befbe247f24e1371cdd93a73e14f87f7a54592165fc64f2"), looks := true }, kinds := [], alts := [], laidByText := true, laidKinds := [.data, .pinned], laidTests := true, laidLooks := .later }
def DohPartsCardSaid : Prop := Claim7.holds Tryd.pinned (.plain (OpenSpec.ofChange dohPartsSpec)) dohPartsCard

/-- THE TIED CARD OF 'ostiarylaw16.DohYoung'. -/
def dohYoungCard : Claim7 := { stood := { row := dohYoungRow, standIns := [], harness := (true, "113b272c018cbaf87befbe247f24e1371cdd93a73e14f87f7a54592165fc64f2"), looks := true }, kinds := [], alts := [], laidByText := true, laidKinds := [.data, .pinned], laidTests := true, laidLooks := .later }
def DohYoungCardSaid : Prop := Claim7.holds Tryd.pinned (.plain (OpenSpec.ofChange dohYoungSpec)) dohYoungCard

/-- THE SECOND FORM's CARD OF 'ostiarylaw16.DohParts'. -/
def dohPartsUptoCard : Claim7 := { stood := { row := dohPartsUptoRow, standIns := [], harness := (true, "113b272c018cbaf87befbe247f24e1371cdd93a73e14f87f7a54592165fc64f2"), looks := true }, kinds := [], alts := [], laidByText := true, laidKinds := [.data, .pinned], laidTests := true, laidLooks := .later }
def DohPartsUptoCardSaid : Prop := Claim7.holds Tryd.pinned (.plain (OpenSpec.upto dohPartsSpec)) dohPartsUptoCard

/-- THE SECOND FORM's CARD OF 'ostiarylaw16.DohYoung'. -/
def dohYoungUptoCard : Claim7 := { stood := { row := dohYoungUptoRow, standIns := [], harness := (true, "113b272c018cbaf87befbe247f24e1371cdd93a73e14f87f7a54592165fc64f2"), looks := true }, kinds := [], alts := [], laidByText := true, laidKinds := [.data, .pinned], laidTests := true, laidLooks := .later }
def DohYoungUptoCardSaid : Prop := Claim7.holds Tryd.pinned (.plain (OpenSpec.upto dohYoungSpec)) dohYoungUptoCard
end Rows
end Go.Proofs.YtlkdmbpbjhjkfaaDoor
