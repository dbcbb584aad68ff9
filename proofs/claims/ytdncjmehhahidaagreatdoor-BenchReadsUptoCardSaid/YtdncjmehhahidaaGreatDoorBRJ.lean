/- joinedFacts, fact by fact. -/
import Derived.Test.YtdncjmehhahidaaGreatDoorFKJ
import Derived.MakeChecks
import Derived.Test.YtdncjmehhahidaaGreatDoorChecked
import Derived.Test.YtdncjmehhahidaaGreatDoorRows
import Derived.SizedLaws
import Derived.Test.YtdncjmehhahidaaGreatDoorCards
import Derived.LaidMore
import Derived.LaidOnce
import Derived.Lay
import Derived.SevenTiedAt
import Derived.Stop.Joined
import Derived.WalkKit
import Derived.ProofKit
import Derived.OpenShut
import Derived.ShutString
import Derived.ChangeOld
import Derived.Below
import Derived.Deep.Slices
import Derived.ChangeArms
import Derived.ChangeShapes
import Derived.WideShapes
import Derived.ChangeMaps5
import Derived.RowKit
import Derived.HandedShaped
import Derived.Shelf.Vars
namespace Go.Proofs.YtdncjmehhahidaaGreatDoor.pBenchReads
open Go.ChangeShapes Go.WideShapes Go.ChangeAt Go.RowKit Go.Deep
set_option linter.unusedVariables false
set_option maxRecDepth 100000
theorem jk0 : (Rows.benchReadsUptoRow.wf (OpenSpec.ofChange (Rows.OpenSpec.upto Rows.benchReadsSpec).bare)) = true := by kernel_rfl
theorem jk3 : (Tryz.f6.params.all (Tryz.prog.readableRec ·)) = true := by kernel_rfl
theorem jk4 : (namedTie Tryz.prog Rows.benchReadsUptoRow.named (Rows.OpenSpec.upto Rows.benchReadsSpec).bare.vars) = true := by kernel_rfl
theorem jk5 : ((Rows.benchReadsUptoRow.stops == [])) = true := by kernel_rfl
theorem jk7 : ((Rows.benchReadsUptoRow.knobs == [])) = true := by kernel_rfl
theorem jk9 : ((Rows.benchReadsUptoRow.inPlace == Tryz.prog.inPlace 6)) = true := by kernel_rfl
theorem jk10 : ((Rows.benchReadsUptoRow.unfollowed == Tryz.prog.unfollowed 6)) = true := by kernel_rfl
theorem jk11 : ((Rows.benchReadsUptoRow.recurses == Tryz.prog.recurses 6)) = true := by kernel_rfl
theorem jk12 : ((Rows.benchReadsUptoRow.named == Tryz.prog.varsNamed 6)) = true := by kernel_rfl
theorem jk13 : ((Rows.benchReadsUptoRow.maps == (Tryz.f6.params.toList ++ (Rows.OpenSpec.upto Rows.benchReadsSpec).bare.plain.varTypes Tryz.prog).any (Tryz.prog.mapsRec ·))) = true := by kernel_rfl
theorem jk14 : ((Rows.benchReadsUptoRow.ifaces == (Tryz.f6.params.toList ++ (Rows.OpenSpec.upto Rows.benchReadsSpec).bare.plain.varTypes Tryz.prog).any (Tryz.prog.ifacesRec ·))) = true := by kernel_rfl
theorem jk15 : ((Rows.benchReadsUptoRow.mapsOut == Tryz.prog.mapsAmong Tryz.f6.resultTypes.toList)) = true := by kernel_rfl
theorem jk16 : ((Rows.benchReadsUptoRow.loops == (Tryz.f6.params.toList ++ (Rows.OpenSpec.upto Rows.benchReadsSpec).bare.plain.varTypes Tryz.prog).any (Tryz.prog.loopsFrom ·))) = true := by kernel_rfl
theorem jk17 : ((Rows.benchReadsUptoRow.wideKeys == (Tryz.f6.params.toList ++ (Rows.OpenSpec.upto Rows.benchReadsSpec).bare.plain.varTypes Tryz.prog ++ Tryz.f6.resultTypes.toList).any (Tryz.prog.wideKeysFrom ·))) = true := by kernel_rfl
theorem jk18 : ((Rows.OpenSpec.upto Rows.benchReadsSpec).bare.vars.all (Tryz.prog.varReadable ·)) = true := by kernel_rfl
theorem jk19 : (Tryz.f6.resultTypes.all (fun t => Tryz.prog.readableRec t && decide (t < Tryz.prog.types.size))) = true := by kernel_rfl
theorem jk20 : ((Rows.benchReadsUptoRow.ifacesOut == Tryz.f6.resultTypes.toList.any (Tryz.prog.ifacesRec ·))) = true := by kernel_rfl
theorem jk21 : ((Rows.benchReadsUptoRow.loopsOut == Tryz.f6.resultTypes.toList.any (Tryz.prog.loopsFrom ·))) = true := by kernel_rfl
theorem jk22 : ((Rows.benchReadsUptoRow.plainKeys == Tryz.prog.plainKeys)) = true := by kernel_rfl
theorem jk23 : (Rows.benchReadsUptoRow.shortTexts.isNone) = true := by kernel_rfl
theorem jk26 : ((Rows.benchReadsUptoRow.lifted == Tryz.prog.liftsFinal)) = true := by kernel_rfl
theorem jk27 : ((Tryz.prog.make == some Rows.benchReadsUptoRow.make)) = true := by kernel_rfl
theorem jk28 : ((Rows.benchReadsUptoRow.kinds == (if Rows.benchReadsUptoRow.domain.isEmpty then [] else Tryz.f6.params.toList.map fun t => match Tryz.prog.underlying t with | some (.int k) => some k | _ => none))) = true := by kernel_rfl
theorem jk29 : ((Rows.benchReadsUptoRow.pinned == Rows.benchReadsUptoRow.pinnedBy)) = true := by kernel_rfl
theorem jk30 : ((Rows.benchReadsUptoRow.veiled == (Tryz.f6.params.toList ++ (Rows.OpenSpec.upto Rows.benchReadsSpec).bare.plain.varTypes Tryz.prog ++ Tryz.f6.resultTypes.toList).any (Tryz.prog.veiledRec ·))) = true := by kernel_rfl
theorem jk31 : (Rows.benchReadsUptoRow.veiledFits Tryz.prog Tryz.f6.params.toList (Tryz.f6.params.toList ++ (Rows.OpenSpec.upto Rows.benchReadsSpec).bare.plain.varTypes Tryz.prog ++ Tryz.f6.resultTypes.toList)) = true := by kernel_rfl
theorem jall : joinedFacts Tryz.prog 6 Tryz.f6 (Rows.OpenSpec.upto Rows.benchReadsSpec).bare Rows.benchReadsUptoRow = true :=
  pBenchKnown.joined_of jk0 laidOut pBenchKnown.jk2 jk3 jk4 jk5 pBenchKnown.jk6 jk7 pBenchKnown.jk8 jk9 jk10 jk11 jk12 jk13 jk14 jk15 jk16 jk17 jk18 jk19 jk20 jk21 jk22 jk23 pBenchKnown.jk24 pBenchKnown.jk25 jk26 jk27 jk28 jk29 jk30 jk31
end Go.Proofs.YtdncjmehhahidaaGreatDoor.pBenchReads
