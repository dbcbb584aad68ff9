/- joinedFacts, fact by fact. -/
import Derived.Test.YtdncjmehhahidaaGreatDoorFKJ
import Derived.MakeChecks
import Derived.Test.YtdncjmehhahidaaGreatDoorChecked
import Derived.Test.YtdncjmehhahidaaGreatDoorRows
import Derived.SizedLaws
import Derived.Test.YtdncjmehhahidaaGreatDoorCards
import Derived.LaidMore
import Derived.LaidOnce
import Derived.Lay
import Derived.SevenTiedAt
import Derived.Stop.Joined
import Derived.WalkKit
import Derived.ProofKit
import Derived.OpenShut
import Derived.ShutString
import Derived.ChangeOld
import Derived.Below
import Derived.Deep.Slices
import Derived.ChangeArms
import Derived.ChangeShapes
import Derived.WideShapes
import Derived.ChangeMaps5
import Derived.RowKit
import Derived.HandedShaped
import Derived.Shelf.Vars
namespace Go.Proofs.YtdncjmehhahidaaGreatDoor.pBenchNone
open Go.ChangeShapes Go.WideShapes Go.ChangeAt Go.RowKit Go.Deep
set_option linter.unusedVariables false
set_option maxRecDepth 100000
theorem jk0 : (Rows.benchNoneRow.wf (OpenSpec.ofChange Rows.benchNoneSpec)) = true := by kernel_rfl
theorem jk3 : (Tryz.f4.params.all (Tryz.prog.readableRec ·)) = true := by kernel_rfl
theorem jk4 : (namedTie Tryz.prog Rows.benchNoneRow.named Rows.benchNoneSpec.vars) = true := by kernel_rfl
theorem jk5 : ((Rows.benchNoneRow.stops == [])) = true := by kernel_rfl
theorem jk7 : ((Rows.benchNoneRow.knobs == [])) = true := by kernel_rfl
theorem jk9 : ((Rows.benchNoneRow.inPlace == Tryz.prog.inPlace 4)) = true := by kernel_rfl
theorem jk10 : ((Rows.benchNoneRow.unfollowed == Tryz.prog.unfollowed 4)) = true := by kernel_rfl
theorem jk11 : ((Rows.benchNoneRow.recurses == Tryz.prog.recurses 4)) = true := by kernel_rfl
theorem jk12 : ((Rows.benchNoneRow.named == Tryz.prog.varsNamed 4)) = true := by kernel_rfl
theorem jk13 : ((Rows.benchNoneRow.maps == (Tryz.f4.params.toList ++ Rows.benchNoneSpec.plain.varTypes Tryz.prog).any (Tryz.prog.mapsRec ·))) = true := by kernel_rfl
theorem jk14 : ((Rows.benchNoneRow.ifaces == (Tryz.f4.params.toList ++ Rows.benchNoneSpec.plain.varTypes Tryz.prog).any (Tryz.prog.ifacesRec ·))) = true := by kernel_rfl
theorem jk15 : ((Rows.benchNoneRow.mapsOut == Tryz.prog.mapsAmong Tryz.f4.resultTypes.toList)) = true := by kernel_rfl
theorem jk16 : ((Rows.benchNoneRow.loops == (Tryz.f4.params.toList ++ Rows.benchNoneSpec.plain.varTypes Tryz.prog).any (Tryz.prog.loopsFrom ·))) = true := by kernel_rfl
theorem jk17 : ((Rows.benchNoneRow.wideKeys == (Tryz.f4.params.toList ++ Rows.benchNoneSpec.plain.varTypes Tryz.prog ++ Tryz.f4.resultTypes.toList).any (Tryz.prog.wideKeysFrom ·))) = true := by kernel_rfl
theorem jk18 : (Rows.benchNoneSpec.vars.all (Tryz.prog.varReadable ·)) = true := by kernel_rfl
theorem jk19 : (Tryz.f4.resultTypes.all (fun t => Tryz.prog.readableRec t && decide (t < Tryz.prog.types.size))) = true := by kernel_rfl
theorem jk20 : ((Rows.benchNoneRow.ifacesOut == Tryz.f4.resultTypes.toList.any (Tryz.prog.ifacesRec ·))) = true := by kernel_rfl
theorem jk21 : ((Rows.benchNoneRow.loopsOut == Tryz.f4.resultTypes.toList.any (Tryz.prog.loopsFrom ·))) = true := by kernel_rfl
theorem jk22 : ((Rows.benchNoneRow.plainKeys == Tryz.prog.plainKeys)) = true := by kernel_rfl
theorem jk23 : (Rows.benchNoneRow.shortTexts.isNone) = true := by kernel_rfl
theorem jk26 : ((Rows.benchNoneRow.lifted == Tryz.prog.liftsFinal)) = true := by kernel_rfl
theorem jk27 : ((Tryz.prog.make == some Rows.benchNoneRow.make)) = true := by kernel_rfl
theorem jk28 : ((Rows.benchNoneRow.kinds == (if Rows.benchNoneRow.domain.isEmpty then [] else Tryz.f4.params.toList.map fun t => match Tryz.prog.underlying t with | some (.int k) => some k | _ => none))) = true := by kernel_rfl
theorem jk29 : ((Rows.benchNoneRow.pinned == Rows.benchNoneRow.pinnedBy)) = true := by kernel_rfl
theorem jk30 : ((Rows.benchNoneRow.veiled == (Tryz.f4.params.toList ++ Rows.benchNoneSpec.plain.varTypes Tryz.prog ++ Tryz.f4.resultTypes.toList).any (Tryz.prog.veiledRec ·))) = true := by kernel_rfl
theorem jk31 : (Rows.benchNoneRow.veiledFits Tryz.prog Tryz.f4.params.toList (Tryz.f4.params.toList ++ Rows.benchNoneSpec.plain.varTypes Tryz.prog ++ Tryz.f4.resultTypes.toList)) = true := by kernel_rfl
theorem jall : joinedFacts Tryz.prog 4 Tryz.f4 Rows.benchNoneSpec Rows.benchNoneRow = true :=
  pBenchKnown.joined_of jk0 laidOut pBenchKnown.jk2 jk3 jk4 jk5 pBenchKnown.jk6 jk7 pBenchKnown.jk8 jk9 jk10 jk11 jk12 jk13 jk14 jk15 jk16 jk17 jk18 jk19 jk20 jk21 jk22 jk23 pBenchKnown.jk24 pBenchKnown.jk25 jk26 jk27 jk28 jk29 jk30 jk31
end Go.Proofs.YtdncjmehhahidaaGreatDoor.pBenchNone
