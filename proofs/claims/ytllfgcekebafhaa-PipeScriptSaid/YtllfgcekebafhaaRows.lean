/-
  No cell of these rows narrows 'for every input' (looked for: loops, veiled, ifaces, maps, wideKeys, modest, calm, conditions, laid).
  DERIVED. THE GIVEN ROWS OF THIS SEAT. 6 by the template 'for every input the law returns true; each argument reads behind the call as it read before'; 0 by the template 'total and deterministic' (their statements: YtllfgcekebafhaaTotals.lean).
  GIVEN WITH THE SEED: the statements are not yours to turn. If you find one false, say at which input.
  Laid BY PROGRAM, IN A SANDBOX (cutbox-rows.mjs): the forced cells as the released guide's own fill.sh prints them over the translation c3e69a0bf0acdde1… (all of the seat's roots in one cut). By AI agents, Wed Nov 11 2026. No macro, syntax, notation, axiom, sorry.
-/
import Derived.Test.YtllfgcekebafhaaChecked
import GoSem.Claim
import GoSem.ClaimJoined
import GoSem.ClaimMapViews
import Derived.JoinedTies
import Derived.KernelRfl
namespace Go.Proofs.Ytllfgcekebafhaa
/- THE CELL 'sum', in the pinned program and in every row, IS THE sha256 OF THE DUMP (.gsa) THAT YtllfgcekebafhaaProg.lean LOADS. Nothing in Lean hashes anything: it is a label: what it is worth is what the hold of that sum in a sandbox is worth. -/
noncomputable def Try.pinned : Pinned := { name := "ytllfgcekebafhaa", sum := "c3e69a0bf0acdde10e03783b2d31e8772f2aaf649e7ec847ff9f148a7496e1b2", checked := Try.checked }
namespace Rows
def none {H : Type} : Left H := { results := [], args := [] }

/-- 'ostiarylaw27.PipeRecords': WHATEVER THE INPUT: true; the input reads as it did. -/
def pipeRecordsSpec : ChangeSpec := { name := "pipeRecords", fn := fun _ => fun
  | [d1, d2] => { results := [.lit (.bool true)], args := [d1, d2] }
  | _ => none }
def pipeRecordsRow : OpenClaim := { program := "ytllfgcekebafhaa", sum := "c3e69a0bf0acdde10e03783b2d31e8772f2aaf649e7ec847ff9f148a7496e1b2", func := "ostiary/ostiarylaw27.PipeRecords", spec := "pipeRecords", unfollowed := true, recurses := true, apart := false }
def PipeRecordsSaid : Prop := pipeRecordsRow.holds Try.pinned (OpenSpec.ofChange pipeRecordsSpec)

/-- ITS FALSE NEIGHBOUR: 'it returns false'. Refute it at one input. -/
def pipeRecordsWrong : ChangeSpec := { name := "pipeRecords", fn := fun _ => fun
  | [d1, d2] => { results := [.lit (.bool false)], args := [d1, d2] }
  | _ => none }
def PipeRecordsWrongFalsely : Prop := pipeRecordsRow.holds Try.pinned (OpenSpec.ofChange pipeRecordsWrong)

/-- 'ostiarylaw27.PipeCuts': WHATEVER THE INPUT: true; the input reads as it did. -/
def pipeCutsSpec : ChangeSpec := { name := "pipeCuts", fn := fun _ => fun
  | [d1, d2, d3] => { results := [.lit (.bool true)], args := [d1, d2, d3] }
  | _ => none }
def pipeCutsRow : OpenClaim := { program := "ytllfgcekebafhaa", sum := "c3e69a0bf0acdde10e03783b2d31e8772f2aaf649e7ec847ff9f148a7496e1b2", func := "ostiary/ostiarylaw27.PipeCuts", spec := "pipeCuts", unfollowed := true, recurses := true, apart := false }
def PipeCutsSaid : Prop := pipeCutsRow.holds Try.pinned (OpenSpec.ofChange pipeCutsSpec)

/-- ITS FALSE NEIGHBOUR: 'it returns false'. Refute it at one input. -/
def pipeCutsWrong : ChangeSpec := { name := "pipeCuts", fn := fun _ => fun
  | [d1, d2, d3] => { results := [.lit (.bool false)], args := [d1, d2, d3] }
  | _ => none }
def PipeCutsWrongFalsely : Prop := pipeCutsRow.holds Try.pinned (OpenSpec.ofChange pipeCutsWrong)

/-- 'ostiarylaw27.PipeScript': WHATEVER THE INPUT: true; the input reads as it did. -/
def pipeScriptSpec : ChangeSpec := { name := "pipeScript", fn := fun _ => fun
  | [d1, d2] => { results := [.lit (.bool true)], args := [d1, d2] }
  | _ => none }
def pipeScriptRow : OpenClaim := { program := "ytllfgcekebafhaa", sum := "c3e69a0bf0acdde10e03783b2d31e8772f2aaf649e7ec847ff9f148a7496e1b2", func := "ostiary/ostiarylaw27.PipeScript", spec := "pipeScript", unfollowed := true, recurses := true, apart := false }
def PipeScriptSaid : Prop := pipeScriptRow.holds Try.pinned (OpenSpec.ofChange pipeScriptSpec)

/-- ITS FALSE NEIGHBOUR: 'it returns false'. Refute it at one input. -/
def pipeScriptWrong : ChangeSpec := { name := "pipeScript", fn := fun _ => fun
  | [d1, d2] => { results := [.lit (.bool false)], args := [d1, d2] }
  | _ => none }
def PipeScriptWrongFalsely : Prop := pipeScriptRow.holds Try.pinned (OpenSpec.ofChange pipeScriptWrong)

/-- 'ostiarylaw27.PipeKnown': WHATEVER THE INPUT: true; the input reads as it did. -/
def pipeKnownSpec : ChangeSpec := { name := "pipeKnown", fn := fun _ => fun
  | [] => { results := [.lit (.bool true)], args := [] }
  | _ => none }
def pipeKnownRow : OpenClaim := { program := "ytllfgcekebafhaa", sum := "c3e69a0bf0acdde10e03783b2d31e8772f2aaf649e7ec847ff9f148a7496e1b2", func := "ostiary/ostiarylaw27.PipeKnown", spec := "pipeKnown", unfollowed := true, recurses := true, apart := false }
def PipeKnownSaid : Prop := pipeKnownRow.holds Try.pinned (OpenSpec.ofChange pipeKnownSpec)

/-- ITS FALSE NEIGHBOUR: 'it returns false'. Refute it at one input. -/
def pipeKnownWrong : ChangeSpec := { name := "pipeKnown", fn := fun _ => fun
  | [] => { results := [.lit (.bool false)], args := [] }
  | _ => none }
def PipeKnownWrongFalsely : Prop := pipeKnownRow.holds Try.pinned (OpenSpec.ofChange pipeKnownWrong)

/-- 'ostiarylaw27.PipeBack': WHATEVER THE INPUT: true; the input reads as it did. -/
def pipeBackSpec : ChangeSpec := { name := "pipeBack", fn := fun _ => fun
  | [d1, d2] => { results := [.lit (.bool true)], args := [d1, d2] }
  | _ => none }
def pipeBackRow : OpenClaim := { program := "ytllfgcekebafhaa", sum := "c3e69a0bf0acdde10e03783b2d31e8772f2aaf649e7ec847ff9f148a7496e1b2", func := "ostiary/ostiarylaw27.PipeBack", spec := "pipeBack", unfollowed := true, recurses := true, apart := false }
def PipeBackSaid : Prop := pipeBackRow.holds Try.pinned (OpenSpec.ofChange pipeBackSpec)

/-- ITS FALSE NEIGHBOUR: 'it returns false'. Refute it at one input. -/
def pipeBackWrong : ChangeSpec := { name := "pipeBack", fn := fun _ => fun
  | [d1, d2] => { results := [.lit (.bool false)], args := [d1, d2] }
  | _ => none }
def PipeBackWrongFalsely : Prop := pipeBackRow.holds Try.pinned (OpenSpec.ofChange pipeBackWrong)

/-- 'ostiarylaw27.PipePlain': WHATEVER THE INPUT: true; the input reads as it did. -/
def pipePlainSpec : ChangeSpec := { name := "pipePlain", fn := fun _ => fun
  | [d] => { results := [.lit (.bool true)], args := [d] }
  | _ => none }
def pipePlainRow : OpenClaim := { program := "ytllfgcekebafhaa", sum := "c3e69a0bf0acdde10e03783b2d31e8772f2aaf649e7ec847ff9f148a7496e1b2", func := "ostiary/ostiarylaw27.PipePlain", spec := "pipePlain", unfollowed := true, recurses := true, apart := false }
def PipePlainSaid : Prop := pipePlainRow.holds Try.pinned (OpenSpec.ofChange pipePlainSpec)

/-- ITS FALSE NEIGHBOUR: 'it returns false'. Refute it at one input. -/
def pipePlainWrong : ChangeSpec := { name := "pipePlain", fn := fun _ => fun
  | [d] => { results := [.lit (.bool false)], args := [d] }
  | _ => none }
def PipePlainWrongFalsely : Prop := pipePlainRow.holds Try.pinned (OpenSpec.ofChange pipePlainWrong)

/- THE SECOND FORM. 'bulk': how many values and letters a reading holds, each counted each time it is reached (what is shared counts as often as it is met; a slice's spare places count too). A statement '..UptoSaid' is the law's where the arguments, and the package variables that the reading takes, are together of bulk at most 1048576: NARROWER than '..Said'. Prove '..Said' where nothing that the law and all that it calls make is longer than what came in: it says more and counts as full. Else prove '..UptoSaid'. A law counts once. -/
mutual
def uptoBulk {H : Type} : DataW H → Nat
  | .lit (.string bytes) => bytes.length + 1
  | .lit _ => 1
  | .nil => 1
  | .ptr d => uptoBulk d + 1
  | .slice elems spare => uptoBulkAll elems + uptoBulkAll spare + 1
  | .agg parts => uptoBulkAll parts + 1
  | .iface _ d => uptoBulk d + 1
  | .map entries => uptoBulkEntries entries + 1
  | .held _ => 1
def uptoBulkAll {H : Type} : List (DataW H) → Nat
  | [] => 0
  | d :: r => uptoBulk d + uptoBulkAll r
def uptoBulkEntries {H : Type} : List (Lit × DataW H) → Nat
  | [] => 0
  | x :: r => uptoBulkEntry x + uptoBulkEntries r
def uptoBulkEntry {H : Type} : Lit × DataW H → Nat
  | (.string bytes, d) => bytes.length + uptoBulk d + 1
  | (_, d) => uptoBulk d + 1
 end
def uptoSmall : (H : Type) → List (DataW H) → Bool := fun _ ds => decide (uptoBulkAll ds ≤ 1048576)
def OpenSpec.upto (s : _root_.Go.ChangeSpec) : _root_.Go.OpenSpec := { _root_.Go.OpenSpec.ofChange s with cond := some uptoSmall }

/-- 'ostiarylaw27.PipeRecords', WHERE WHAT IT READS IS OF BULK AT MOST 1048576: true; the input reads as it did. -/
def pipeRecordsUptoRow : OpenClaim := { program := "ytllfgcekebafhaa", sum := "c3e69a0bf0acdde10e03783b2d31e8772f2aaf649e7ec847ff9f148a7496e1b2", func := "ostiary/ostiarylaw27.PipeRecords", spec := "pipeRecords", unfollowed := true, recurses := true, apart := false, narrowed := true }
def PipeRecordsUptoSaid : Prop := pipeRecordsUptoRow.holds Try.pinned (OpenSpec.upto pipeRecordsSpec)

/-- 'ostiarylaw27.PipeCuts', WHERE WHAT IT READS IS OF BULK AT MOST 1048576: true; the input reads as it did. -/
def pipeCutsUptoRow : OpenClaim := { program := "ytllfgcekebafhaa", sum := "c3e69a0bf0acdde10e03783b2d31e8772f2aaf649e7ec847ff9f148a7496e1b2", func := "ostiary/ostiarylaw27.PipeCuts", spec := "pipeCuts", unfollowed := true, recurses := true, apart := false, narrowed := true }
def PipeCutsUptoSaid : Prop := pipeCutsUptoRow.holds Try.pinned (OpenSpec.upto pipeCutsSpec)

/-- 'ostiarylaw27.PipeScript', WHERE WHAT IT READS IS OF BULK AT MOST 1048576: true; the input reads as it did. -/
def pipeScriptUptoRow : OpenClaim := { program := "ytllfgcekebafhaa", sum := "c3e69a0bf0acdde10e03783b2d31e8772f2aaf649e7ec847ff9f148a7496e1b2", func := "ostiary/ostiarylaw27.PipeScript", spec := "pipeScript", unfollowed := true, recurses := true, apart := false, narrowed := true }
def PipeScriptUptoSaid : Prop := pipeScriptUptoRow.holds Try.pinned (OpenSpec.upto pipeScriptSpec)

/-- 'ostiarylaw27.PipeKnown', WHERE WHAT IT READS IS OF BULK AT MOST 1048576: true; the input reads as it did. -/
def pipeKnownUptoRow : OpenClaim := { program := "ytllfgcekebafhaa", sum := "c3e69a0bf0acdde10e03783b2d31e8772f2aaf649e7ec847ff9f148a7496e1b2", func := "ostiary/ostiarylaw27.PipeKnown", spec := "pipeKnown", unfollowed := true, recurses := true, apart := false, narrowed := true }
def PipeKnownUptoSaid : Prop := pipeKnownUptoRow.holds Try.pinned (OpenSpec.upto pipeKnownSpec)

/-- 'ostiarylaw27.PipeBack', WHERE WHAT IT READS IS OF BULK AT MOST 1048576: true; the input reads as it did. -/
def pipeBackUptoRow : OpenClaim := { program := "ytllfgcekebafhaa", sum := "c3e69a0bf0acdde10e03783b2d31e8772f2aaf649e7ec847ff9f148a7496e1b2", func := "ostiary/ostiarylaw27.PipeBack", spec := "pipeBack", unfollowed := true, recurses := true, apart := false, narrowed := true }
def PipeBackUptoSaid : Prop := pipeBackUptoRow.holds Try.pinned (OpenSpec.upto pipeBackSpec)

/-- 'ostiarylaw27.PipePlain', WHERE WHAT IT READS IS OF BULK AT MOST 1048576: true; the input reads as it did. -/
def pipePlainUptoRow : OpenClaim := { program := "ytllfgcekebafhaa", sum := "c3e69a0bf0acdde10e03783b2d31e8772f2aaf649e7ec847ff9f148a7496e1b2", func := "ostiary/ostiarylaw27.PipePlain", spec := "pipePlain", unfollowed := true, recurses := true, apart := false, narrowed := true }
def PipePlainUptoSaid : Prop := pipePlainUptoRow.holds Try.pinned (OpenSpec.upto pipePlainSpec)

end Rows
end Go.Proofs.Ytllfgcekebafhaa
