/- joinedFacts, fact by fact. -/
import Derived.Test.YtdncjmehhahidaaGreatDoorFKL
import Derived.MakeChecks
import Derived.Test.YtdncjmehhahidaaGreatDoorChecked
import Derived.Test.YtdncjmehhahidaaGreatDoorRows
import Derived.SizedLaws
import Derived.Test.YtdncjmehhahidaaGreatDoorCards
import Derived.LaidMore
import Derived.LaidOnce
import Derived.Lay
import Derived.SevenTiedAt
import Derived.Stop.Joined
import Derived.WalkKit
import Derived.ProofKit
import Derived.OpenShut
import Derived.ShutString
import Derived.ChangeOld
import Derived.Below
import Derived.Deep.Slices
import Derived.ChangeArms
import Derived.ChangeShapes
import Derived.WideShapes
import Derived.ChangeMaps5
import Derived.RowKit
import Derived.HandedShaped
import Derived.Shelf.Vars
namespace Go.Proofs.YtdncjmehhahidaaGreatDoor.pBenchKnown
open Go.ChangeShapes Go.WideShapes Go.ChangeAt Go.RowKit Go.Deep
set_option linter.unusedVariables false
set_option maxRecDepth 100000
theorem joined_of {P : Program} {f : FuncId} {fn : Func} {s : ChangeSpec} {c : OpenClaim} (h0 : (c.wf (OpenSpec.ofChange s)) = true) (h1 : (laidOutB P) = true) (h2 : (mapsRowed P) = true) (h3 : (fn.params.all (P.readableRec ·)) = true) (h4 : (namedTie P c.named s.vars) = true) (h5 : ((c.stops == [])) = true) (h6 : ((P.stops == [])) = true) (h7 : ((c.knobs == [])) = true) (h8 : ((P.stopKnobs == [])) = true) (h9 : ((c.inPlace == P.inPlace f)) = true) (h10 : ((c.unfollowed == P.unfollowed f)) = true) (h11 : ((c.recurses == P.recurses f)) = true) (h12 : ((c.named == P.varsNamed f)) = true) (h13 : ((c.maps == (fn.params.toList ++ s.plain.varTypes P).any (P.mapsRec ·))) = true) (h14 : ((c.ifaces == (fn.params.toList ++ s.plain.varTypes P).any (P.ifacesRec ·))) = true) (h15 : ((c.mapsOut == P.mapsAmong fn.resultTypes.toList)) = true) (h16 : ((c.loops == (fn.params.toList ++ s.plain.varTypes P).any (P.loopsFrom ·))) = true) (h17 : ((c.wideKeys == (fn.params.toList ++ s.plain.varTypes P ++ fn.resultTypes.toList).any (P.wideKeysFrom ·))) = true) (h18 : (s.vars.all (P.varReadable ·)) = true) (h19 : (fn.resultTypes.all (fun t => P.readableRec t && decide (t < P.types.size))) = true) (h20 : ((c.ifacesOut == fn.resultTypes.toList.any (P.ifacesRec ·))) = true) (h21 : ((c.loopsOut == fn.resultTypes.toList.any (P.loopsFrom ·))) = true) (h22 : ((c.plainKeys == P.plainKeys)) = true) (h23 : (c.shortTexts.isNone) = true) (h24 : (P.stopsHeard) = true) (h25 : (P.mayEnter) = true) (h26 : ((c.lifted == P.liftsFinal)) = true) (h27 : ((P.make == some c.make)) = true) (h28 : ((c.kinds == (if c.domain.isEmpty then [] else fn.params.toList.map fun t => match P.underlying t with | some (.int k) => some k | _ => none))) = true) (h29 : ((c.pinned == c.pinnedBy)) = true) (h30 : ((c.veiled == (fn.params.toList ++ s.plain.varTypes P ++ fn.resultTypes.toList).any (P.veiledRec ·))) = true) (h31 : (c.veiledFits P fn.params.toList (fn.params.toList ++ s.plain.varTypes P ++ fn.resultTypes.toList)) = true) : joinedFacts P f fn s c = true := by
  have e : joinedFacts P f fn s c = (c.wf (OpenSpec.ofChange s) && laidOutB P && mapsRowed P && fn.params.all (P.readableRec ·) && namedTie P c.named s.vars && (c.stops == []) && (P.stops == []) && (c.knobs == []) && (P.stopKnobs == []) && (c.inPlace == P.inPlace f) && (c.unfollowed == P.unfollowed f) && (c.recurses == P.recurses f) && (c.named == P.varsNamed f) && (c.maps == (fn.params.toList ++ s.plain.varTypes P).any (P.mapsRec ·)) && (c.ifaces == (fn.params.toList ++ s.plain.varTypes P).any (P.ifacesRec ·)) && (c.mapsOut == P.mapsAmong fn.resultTypes.toList) && (c.loops == (fn.params.toList ++ s.plain.varTypes P).any (P.loopsFrom ·)) && (c.wideKeys == (fn.params.toList ++ s.plain.varTypes P ++ fn.resultTypes.toList).any (P.wideKeysFrom ·)) && s.vars.all (P.varReadable ·) && fn.resultTypes.all (fun t => P.readableRec t && decide (t < P.types.size)) && (c.ifacesOut == fn.resultTypes.toList.any (P.ifacesRec ·)) && (c.loopsOut == fn.resultTypes.toList.any (P.loopsFrom ·)) && (c.plainKeys == P.plainKeys) && c.shortTexts.isNone && P.stopsHeard && P.mayEnter && (c.lifted == P.liftsFinal) && (P.make == some c.make) && (c.kinds == (if c.domain.isEmpty then [] else fn.params.toList.map fun t => match P.underlying t with | some (.int k) => some k | _ => none)) && (c.pinned == c.pinnedBy) && (c.veiled == (fn.params.toList ++ s.plain.varTypes P ++ fn.resultTypes.toList).any (P.veiledRec ·)) && c.veiledFits P fn.params.toList (fn.params.toList ++ s.plain.varTypes P ++ fn.resultTypes.toList)) := rfl
  rw [e, h0, h1, h2, h3, h4, h5, h6, h7, h8, h9, h10, h11, h12, h13, h14, h15, h16, h17, h18, h19, h20, h21, h22, h23, h24, h25, h26, h27, h28, h29, h30, h31]
  rfl
theorem jk0 : (Rows.benchKnownRow.wf (OpenSpec.ofChange Rows.benchKnownSpec)) = true := by kernel_rfl
theorem jk2 : (mapsRowed Tryz.prog) = true := by kernel_rfl
theorem jk3 : (Tryz.f5.params.all (Tryz.prog.readableRec ·)) = true := by kernel_rfl
theorem jk4 : (namedTie Tryz.prog Rows.benchKnownRow.named Rows.benchKnownSpec.vars) = true := by kernel_rfl
theorem jk5 : ((Rows.benchKnownRow.stops == [])) = true := by kernel_rfl
theorem jk6 : ((Tryz.prog.stops == [])) = true := by kernel_rfl
theorem jk7 : ((Rows.benchKnownRow.knobs == [])) = true := by kernel_rfl
theorem jk8 : ((Tryz.prog.stopKnobs == [])) = true := by kernel_rfl
theorem jk9 : ((Rows.benchKnownRow.inPlace == Tryz.prog.inPlace 5)) = true := by kernel_rfl
theorem jk10 : ((Rows.benchKnownRow.unfollowed == Tryz.prog.unfollowed 5)) = true := by kernel_rfl
theorem jk11 : ((Rows.benchKnownRow.recurses == Tryz.prog.recurses 5)) = true := by kernel_rfl
theorem jk12 : ((Rows.benchKnownRow.named == Tryz.prog.varsNamed 5)) = true := by kernel_rfl
theorem jk13 : ((Rows.benchKnownRow.maps == (Tryz.f5.params.toList ++ Rows.benchKnownSpec.plain.varTypes Tryz.prog).any (Tryz.prog.mapsRec ·))) = true := by kernel_rfl
theorem jk14 : ((Rows.benchKnownRow.ifaces == (Tryz.f5.params.toList ++ Rows.benchKnownSpec.plain.varTypes Tryz.prog).any (Tryz.prog.ifacesRec ·))) = true := by kernel_rfl
theorem jk15 : ((Rows.benchKnownRow.mapsOut == Tryz.prog.mapsAmong Tryz.f5.resultTypes.toList)) = true := by kernel_rfl
theorem jk16 : ((Rows.benchKnownRow.loops == (Tryz.f5.params.toList ++ Rows.benchKnownSpec.plain.varTypes Tryz.prog).any (Tryz.prog.loopsFrom ·))) = true := by kernel_rfl
theorem jk17 : ((Rows.benchKnownRow.wideKeys == (Tryz.f5.params.toList ++ Rows.benchKnownSpec.plain.varTypes Tryz.prog ++ Tryz.f5.resultTypes.toList).any (Tryz.prog.wideKeysFrom ·))) = true := by kernel_rfl
theorem jk18 : (Rows.benchKnownSpec.vars.all (Tryz.prog.varReadable ·)) = true := by kernel_rfl
theorem jk19 : (Tryz.f5.resultTypes.all (fun t => Tryz.prog.readableRec t && decide (t < Tryz.prog.types.size))) = true := by kernel_rfl
theorem jk20 : ((Rows.benchKnownRow.ifacesOut == Tryz.f5.resultTypes.toList.any (Tryz.prog.ifacesRec ·))) = true := by kernel_rfl
theorem jk21 : ((Rows.benchKnownRow.loopsOut == Tryz.f5.resultTypes.toList.any (Tryz.prog.loopsFrom ·))) = true := by kernel_rfl
theorem jk22 : ((Rows.benchKnownRow.plainKeys == Tryz.prog.plainKeys)) = true := by kernel_rfl
theorem jk23 : (Rows.benchKnownRow.shortTexts.isNone) = true := by kernel_rfl
theorem jk24 : (Tryz.prog.stopsHeard) = true := by kernel_rfl
theorem jk25 : (Tryz.prog.mayEnter) = true := by kernel_rfl
theorem jk26 : ((Rows.benchKnownRow.lifted == Tryz.prog.liftsFinal)) = true := by kernel_rfl
theorem jk27 : ((Tryz.prog.make == some Rows.benchKnownRow.make)) = true := by kernel_rfl
theorem jk28 : ((Rows.benchKnownRow.kinds == (if Rows.benchKnownRow.domain.isEmpty then [] else Tryz.f5.params.toList.map fun t => match Tryz.prog.underlying t with | some (.int k) => some k | _ => none))) = true := by kernel_rfl
theorem jk29 : ((Rows.benchKnownRow.pinned == Rows.benchKnownRow.pinnedBy)) = true := by kernel_rfl
theorem jk30 : ((Rows.benchKnownRow.veiled == (Tryz.f5.params.toList ++ Rows.benchKnownSpec.plain.varTypes Tryz.prog ++ Tryz.f5.resultTypes.toList).any (Tryz.prog.veiledRec ·))) = true := by kernel_rfl
theorem jk31 : (Rows.benchKnownRow.veiledFits Tryz.prog Tryz.f5.params.toList (Tryz.f5.params.toList ++ Rows.benchKnownSpec.plain.varTypes Tryz.prog ++ Tryz.f5.resultTypes.toList)) = true := by kernel_rfl
theorem jall : joinedFacts Tryz.prog 5 Tryz.f5 Rows.benchKnownSpec Rows.benchKnownRow = true :=
  joined_of jk0 laidOut jk2 jk3 jk4 jk5 jk6 jk7 jk8 jk9 jk10 jk11 jk12 jk13 jk14 jk15 jk16 jk17 jk18 jk19 jk20 jk21 jk22 jk23 jk24 jk25 jk26 jk27 jk28 jk29 jk30 jk31
end Go.Proofs.YtdncjmehhahidaaGreatDoor.pBenchKnown
