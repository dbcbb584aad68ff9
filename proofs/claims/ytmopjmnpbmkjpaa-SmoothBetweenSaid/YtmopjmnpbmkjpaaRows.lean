/-
  No cell of these rows narrows 'for every input' (looked for: loops, veiled, ifaces, maps, wideKeys, modest, calm, conditions, laid).
  DERIVED. THE GIVEN ROWS OF THIS SEAT. 7 by the template 'for every input the law returns true; each argument reads behind the call as it read before'; 0 by the template 'total and deterministic' (their statements: YtmopjmnpbmkjpaaTotals.lean).
  GIVEN WITH THE SEED: the statements are not yours to turn. If you find one false, say at which input.
  Laid BY PROGRAM, IN A SANDBOX (cutbox-rows.mjs): the forced cells as the released guide's own fill.sh prints them over the translation fc1c31ddc0324c4c… (all of the seat's roots in one cut). By AI agents, Wed Nov 11 2026. No macro, syntax, notation, axiom, sorry.
-/
import Derived.Test.YtmopjmnpbmkjpaaChecked
import GoSem.Claim
import GoSem.ClaimJoined
import GoSem.ClaimMapViews
import Derived.JoinedTies
import Derived.KernelRfl
namespace Go.Proofs.Ytmopjmnpbmkjpaa
/- THE CELL 'sum', in the pinned program and in every row, IS THE sha256 OF THE DUMP (.gsa) THAT YtmopjmnpbmkjpaaProg.lean LOADS. Nothing in Lean hashes anything: it is a label: what it is worth is what the hold of that sum in a sandbox is worth. -/
noncomputable def Try.pinned : Pinned := { name := "ytmopjmnpbmkjpaa", sum := "fc1c31ddc0324c4c891deefc1b5ebac79097478b963486760a7e33b21a8676a0", checked := Try.checked }
namespace Rows
def none {H : Type} : Left H := { results := [], args := [] }

/-- 'ostiarylaw02.SmoothBest': WHATEVER THE INPUT: true; the input reads as it did. -/
def smoothBestSpec : ChangeSpec := { name := "smoothBest", fn := fun _ => fun
  | [d1, d2, d3] => { results := [.lit (.bool true)], args := [d1, d2, d3] }
  | _ => none }
def smoothBestRow : OpenClaim := { program := "ytmopjmnpbmkjpaa", sum := "fc1c31ddc0324c4c891deefc1b5ebac79097478b963486760a7e33b21a8676a0", func := "ostiary/ostiarylaw02.SmoothBest", spec := "smoothBest", inPlace := ["math.Float64frombits", "math.Float64bits", "math.archCeil", "math.archFloor", "math.archTrunc"], apart := false }
def SmoothBestSaid : Prop := smoothBestRow.holds Try.pinned (OpenSpec.ofChange smoothBestSpec)

/-- ITS FALSE NEIGHBOUR: 'it returns false'. Refute it at one input. -/
def smoothBestWrong : ChangeSpec := { name := "smoothBest", fn := fun _ => fun
  | [d1, d2, d3] => { results := [.lit (.bool false)], args := [d1, d2, d3] }
  | _ => none }
def SmoothBestWrongFalsely : Prop := smoothBestRow.holds Try.pinned (OpenSpec.ofChange smoothBestWrong)

/-- 'ostiarylaw02.SmoothWaits': WHATEVER THE INPUT: true; the input reads as it did. -/
def smoothWaitsSpec : ChangeSpec := { name := "smoothWaits", fn := fun _ => fun
  | [d1, d2] => { results := [.lit (.bool true)], args := [d1, d2] }
  | _ => none }
def smoothWaitsRow : OpenClaim := { program := "ytmopjmnpbmkjpaa", sum := "fc1c31ddc0324c4c891deefc1b5ebac79097478b963486760a7e33b21a8676a0", func := "ostiary/ostiarylaw02.SmoothWaits", spec := "smoothWaits", inPlace := ["math.archCeil", "math.archFloor", "math.Float64bits", "math.Float64frombits", "math.archTrunc"], apart := false }
def SmoothWaitsSaid : Prop := smoothWaitsRow.holds Try.pinned (OpenSpec.ofChange smoothWaitsSpec)

/-- ITS FALSE NEIGHBOUR: 'it returns false'. Refute it at one input. -/
def smoothWaitsWrong : ChangeSpec := { name := "smoothWaits", fn := fun _ => fun
  | [d1, d2] => { results := [.lit (.bool false)], args := [d1, d2] }
  | _ => none }
def SmoothWaitsWrongFalsely : Prop := smoothWaitsRow.holds Try.pinned (OpenSpec.ofChange smoothWaitsWrong)

/-- 'ostiarylaw02.SmoothRises': WHATEVER THE INPUT: true; the input reads as it did. -/
def smoothRisesSpec : ChangeSpec := { name := "smoothRises", fn := fun _ => fun
  | [d1, d2, d3] => { results := [.lit (.bool true)], args := [d1, d2, d3] }
  | _ => none }
def smoothRisesRow : OpenClaim := { program := "ytmopjmnpbmkjpaa", sum := "fc1c31ddc0324c4c891deefc1b5ebac79097478b963486760a7e33b21a8676a0", func := "ostiary/ostiarylaw02.SmoothRises", spec := "smoothRises", inPlace := ["math.Float64frombits", "math.Float64bits", "math.archCeil", "math.archFloor", "math.archTrunc"], apart := false }
def SmoothRisesSaid : Prop := smoothRisesRow.holds Try.pinned (OpenSpec.ofChange smoothRisesSpec)

/-- ITS FALSE NEIGHBOUR: 'it returns false'. Refute it at one input. -/
def smoothRisesWrong : ChangeSpec := { name := "smoothRises", fn := fun _ => fun
  | [d1, d2, d3] => { results := [.lit (.bool false)], args := [d1, d2, d3] }
  | _ => none }
def SmoothRisesWrongFalsely : Prop := smoothRisesRow.holds Try.pinned (OpenSpec.ofChange smoothRisesWrong)

/-- 'ostiarylaw02.SmoothMeans': WHATEVER THE INPUT: true; the input reads as it did. -/
def smoothMeansSpec : ChangeSpec := { name := "smoothMeans", fn := fun _ => fun
  | [d1, d2, d3, d4] => { results := [.lit (.bool true)], args := [d1, d2, d3, d4] }
  | _ => none }
def smoothMeansRow : OpenClaim := { program := "ytmopjmnpbmkjpaa", sum := "fc1c31ddc0324c4c891deefc1b5ebac79097478b963486760a7e33b21a8676a0", func := "ostiary/ostiarylaw02.SmoothMeans", spec := "smoothMeans", inPlace := ["math.Float64bits", "math.Float64frombits", "math.archCeil", "math.archFloor", "math.archTrunc"], apart := false }
def SmoothMeansSaid : Prop := smoothMeansRow.holds Try.pinned (OpenSpec.ofChange smoothMeansSpec)

/-- ITS FALSE NEIGHBOUR: 'it returns false'. Refute it at one input. -/
def smoothMeansWrong : ChangeSpec := { name := "smoothMeans", fn := fun _ => fun
  | [d1, d2, d3, d4] => { results := [.lit (.bool false)], args := [d1, d2, d3, d4] }
  | _ => none }
def SmoothMeansWrongFalsely : Prop := smoothMeansRow.holds Try.pinned (OpenSpec.ofChange smoothMeansWrong)

/-- 'ostiarylaw02.SmoothKnown': WHATEVER THE INPUT: true; the input reads as it did. -/
def smoothKnownSpec : ChangeSpec := { name := "smoothKnown", fn := fun _ => fun
  | [] => { results := [.lit (.bool true)], args := [] }
  | _ => none }
def smoothKnownRow : OpenClaim := { program := "ytmopjmnpbmkjpaa", sum := "fc1c31ddc0324c4c891deefc1b5ebac79097478b963486760a7e33b21a8676a0", func := "ostiary/ostiarylaw02.SmoothKnown", spec := "smoothKnown", inPlace := ["math.Float64frombits", "math.Float64bits", "math.archCeil", "math.archFloor", "math.archTrunc"], apart := false }
def SmoothKnownSaid : Prop := smoothKnownRow.holds Try.pinned (OpenSpec.ofChange smoothKnownSpec)

/-- ITS FALSE NEIGHBOUR: 'it returns false'. Refute it at one input. -/
def smoothKnownWrong : ChangeSpec := { name := "smoothKnown", fn := fun _ => fun
  | [] => { results := [.lit (.bool false)], args := [] }
  | _ => none }
def SmoothKnownWrongFalsely : Prop := smoothKnownRow.holds Try.pinned (OpenSpec.ofChange smoothKnownWrong)

/-- 'ostiarylaw02.SmoothOrder': WHATEVER THE INPUT: true; the input reads as it did. -/
def smoothOrderSpec : ChangeSpec := { name := "smoothOrder", fn := fun _ => fun
  | [d1, d2, d3, d4] => { results := [.lit (.bool true)], args := [d1, d2, d3, d4] }
  | _ => none }
def smoothOrderRow : OpenClaim := { program := "ytmopjmnpbmkjpaa", sum := "fc1c31ddc0324c4c891deefc1b5ebac79097478b963486760a7e33b21a8676a0", func := "ostiary/ostiarylaw02.SmoothOrder", spec := "smoothOrder", inPlace := ["math.Float64frombits", "math.Float64bits", "math.archCeil", "math.archFloor", "math.archTrunc"], apart := false }
def SmoothOrderSaid : Prop := smoothOrderRow.holds Try.pinned (OpenSpec.ofChange smoothOrderSpec)

/-- ITS FALSE NEIGHBOUR: 'it returns false'. Refute it at one input. -/
def smoothOrderWrong : ChangeSpec := { name := "smoothOrder", fn := fun _ => fun
  | [d1, d2, d3, d4] => { results := [.lit (.bool false)], args := [d1, d2, d3, d4] }
  | _ => none }
def SmoothOrderWrongFalsely : Prop := smoothOrderRow.holds Try.pinned (OpenSpec.ofChange smoothOrderWrong)

/-- 'ostiarylaw02.SmoothBetween': WHATEVER THE INPUT: true; the input reads as it did. -/
def smoothBetweenSpec : ChangeSpec := { name := "smoothBetween", fn := fun _ => fun
  | [d1, d2, d3] => { results := [.lit (.bool true)], args := [d1, d2, d3] }
  | _ => none }
def smoothBetweenRow : OpenClaim := { program := "ytmopjmnpbmkjpaa", sum := "fc1c31ddc0324c4c891deefc1b5ebac79097478b963486760a7e33b21a8676a0", func := "ostiary/ostiarylaw02.SmoothBetween", spec := "smoothBetween", inPlace := ["math.Float64frombits", "math.Float64bits", "math.archCeil", "math.archFloor", "math.archTrunc", "math.archMin", "math.archMax"], apart := false }
def SmoothBetweenSaid : Prop := smoothBetweenRow.holds Try.pinned (OpenSpec.ofChange smoothBetweenSpec)

/-- ITS FALSE NEIGHBOUR: 'it returns false'. Refute it at one input. -/
def smoothBetweenWrong : ChangeSpec := { name := "smoothBetween", fn := fun _ => fun
  | [d1, d2, d3] => { results := [.lit (.bool false)], args := [d1, d2, d3] }
  | _ => none }
def SmoothBetweenWrongFalsely : Prop := smoothBetweenRow.holds Try.pinned (OpenSpec.ofChange smoothBetweenWrong)

/- THE SECOND FORM. 'bulk': how many values and letters a reading holds, each counted each time it is reached (what is shared counts as often as it is met; a slice's spare places count too). A statement '..UptoSaid' is the law's where the arguments, and the package variables that the reading takes, are together of bulk at most 1048576: NARROWER than '..Said'. Prove '..Said' where nothing that the law and all that it calls make is longer than what came in: it says more and counts as full. Else prove '..UptoSaid'. A law counts once. -/
mutual
def uptoBulk {H : Type} : DataW H → Nat
  | .lit (.string bytes) => bytes.length + 1
  | .lit _ => 1
  | .nil => 1
  | .ptr d => uptoBulk d + 1
  | .slice elems spare => uptoBulkAll elems + uptoBulkAll spare + 1
  | .agg parts => uptoBulkAll parts + 1
  | .iface _ d => uptoBulk d + 1
  | .map entries => uptoBulkEntries entries + 1
  | .held _ => 1
def uptoBulkAll {H : Type} : List (DataW H) → Nat
  | [] => 0
  | d :: r => uptoBulk d + uptoBulkAll r
def uptoBulkEntries {H : Type} : List (Lit × DataW H) → Nat
  | [] => 0
  | x :: r => uptoBulkEntry x + uptoBulkEntries r
def uptoBulkEntry {H : Type} : Lit × DataW H → Nat
  | (.string bytes, d) => bytes.length + uptoBulk d + 1
  | (_, d) => uptoBulk d + 1
 end
def uptoSmall : (H : Type) → List (DataW H) → Bool := fun _ ds => decide (uptoBulkAll ds ≤ 1048576)
def OpenSpec.upto (s : _root_.Go.ChangeSpec) : _root_.Go.OpenSpec := { _root_.Go.OpenSpec.ofChange s with cond := some uptoSmall }

/-- 'ostiarylaw02.SmoothBest', WHERE WHAT IT READS IS OF BULK AT MOST 1048576: true; the input reads as it did. -/
def smoothBestUptoRow : OpenClaim := { program := "ytmopjmnpbmkjpaa", sum := "fc1c31ddc0324c4c891deefc1b5ebac79097478b963486760a7e33b21a8676a0", func := "ostiary/ostiarylaw02.SmoothBest", spec := "smoothBest", inPlace := ["math.Float64frombits", "math.Float64bits", "math.archCeil", "math.archFloor", "math.archTrunc"], apart := false, narrowed := true }
def SmoothBestUptoSaid : Prop := smoothBestUptoRow.holds Try.pinned (OpenSpec.upto smoothBestSpec)

/-- 'ostiarylaw02.SmoothWaits', WHERE WHAT IT READS IS OF BULK AT MOST 1048576: true; the input reads as it did. -/
def smoothWaitsUptoRow : OpenClaim := { program := "ytmopjmnpbmkjpaa", sum := "fc1c31ddc0324c4c891deefc1b5ebac79097478b963486760a7e33b21a8676a0", func := "ostiary/ostiarylaw02.SmoothWaits", spec := "smoothWaits", inPlace := ["math.archCeil", "math.archFloor", "math.Float64bits", "math.Float64frombits", "math.archTrunc"], apart := false, narrowed := true }
def SmoothWaitsUptoSaid : Prop := smoothWaitsUptoRow.holds Try.pinned (OpenSpec.upto smoothWaitsSpec)

/-- 'ostiarylaw02.SmoothRises', WHERE WHAT IT READS IS OF BULK AT MOST 1048576: true; the input reads as it did. -/
def smoothRisesUptoRow : OpenClaim := { program := "ytmopjmnpbmkjpaa", sum := "fc1c31ddc0324c4c891deefc1b5ebac79097478b963486760a7e33b21a8676a0", func := "ostiary/ostiarylaw02.SmoothRises", spec := "smoothRises", inPlace := ["math.Float64frombits", "math.Float64bits", "math.archCeil", "math.archFloor", "math.archTrunc"], apart := false, narrowed := true }
def SmoothRisesUptoSaid : Prop := smoothRisesUptoRow.holds Try.pinned (OpenSpec.upto smoothRisesSpec)

/-- 'ostiarylaw02.SmoothMeans', WHERE WHAT IT READS IS OF BULK AT MOST 1048576: true; the input reads as it did. -/
def smoothMeansUptoRow : OpenClaim := { program := "ytmopjmnpbmkjpaa", sum := "fc1c31ddc0324c4c891deefc1b5ebac79097478b963486760a7e33b21a8676a0", func := "ostiary/ostiarylaw02.SmoothMeans", spec := "smoothMeans", inPlace := ["math.Float64bits", "math.Float64frombits", "math.archCeil", "math.archFloor", "math.archTrunc"], apart := false, narrowed := true }
def SmoothMeansUptoSaid : Prop := smoothMeansUptoRow.holds Try.pinned (OpenSpec.upto smoothMeansSpec)

/-- 'ostiarylaw02.SmoothKnown', WHERE WHAT IT READS IS OF BULK AT MOST 1048576: true; the input reads as it did. -/
def smoothKnownUptoRow : OpenClaim := { program := "ytmopjmnpbmkjpaa", sum := "fc1c31ddc0324c4c891deefc1b5ebac79097478b963486760a7e33b21a8676a0", func := "ostiary/ostiarylaw02.SmoothKnown", spec := "smoothKnown", inPlace := ["math.Float64frombits", "math.Float64bits", "math.archCeil", "math.archFloor", "math.archTrunc"], apart := false, narrowed := true }
def SmoothKnownUptoSaid : Prop := smoothKnownUptoRow.holds Try.pinned (OpenSpec.upto smoothKnownSpec)

/-- 'ostiarylaw02.SmoothOrder', WHERE WHAT IT READS IS OF BULK AT MOST 1048576: true; the input reads as it did. -/
def smoothOrderUptoRow : OpenClaim := { program := "ytmopjmnpbmkjpaa", sum := "fc1c31ddc0324c4c891deefc1b5ebac79097478b963486760a7e33b21a8676a0", func := "ostiary/ostiarylaw02.SmoothOrder", spec := "smoothOrder", inPlace := ["math.Float64frombits", "math.Float64bits", "math.archCeil", "math.archFloor", "math.archTrunc"], apart := false, narrowed := true }
def SmoothOrderUptoSaid : Prop := smoothOrderUptoRow.holds Try.pinned (OpenSpec.upto smoothOrderSpec)

/-- 'ostiarylaw02.SmoothBetween', WHERE WHAT IT READS IS OF BULK AT MOST 1048576: true; the input reads as it did. -/
def smoothBetweenUptoRow : OpenClaim := { program := "ytmopjmnpbmkjpaa", sum := "fc1c31ddc0324c4c891deefc1b5ebac79097478b963486760a7e33b21a8676a0", func := "ostiary/ostiarylaw02.SmoothBetween", spec := "smoothBetween", inPlace := ["math.Float64frombits", "math.Float64bits", "math.archCeil", "math.archFloor", "math.archTrunc", "math.archMin", "math.archMax"], apart := false, narrowed := true }
def SmoothBetweenUptoSaid : Prop := smoothBetweenUptoRow.holds Try.pinned (OpenSpec.upto smoothBetweenSpec)

end Rows
end Go.Proofs.Ytmopjmnpbmkjpaa
