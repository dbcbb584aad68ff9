/- Parts of the proof. -/
import Derived.Test.YtjmnjkoekabioaaGreatDoorQC00
namespace Go.Proofs.YtjmnjkoekabioaaGreatDoor.pTopCarried
set_option maxHeartbeats 400000
open Go.ChangeShapes Go.WideShapes Go.ChangeAt Go.RowKit Go.Deep
set_option linter.unusedVariables false
set_option maxRecDepth 100000
theorem zsY {P:Program}{f:FuncId}{fn:Func}{s:ChangeSpec}{c:OpenClaim}(h0:(c.wf (OpenSpec.ofChange s))=true) (h1:(laidOutB P)=true) (h2:(mapsRowed P)=true) (h3:(fn.params.all (P.readableRec ·))=true) (h4:(namedTie P c.named s.vars)=true) (h5:((c.stops == []))=true) (h6:((P.stops == []))=true) (h7:((c.knobs == []))=true) (h8:((P.stopKnobs == []))=true) (h9:((c.inPlace == P.inPlace f))=true) (h10:((c.unfollowed == P.unfollowed f))=true) (h11:((c.recurses == P.recurses f))=true) (h12:((c.named == P.varsNamed f))=true) (h13:((c.maps == (fn.params.toList++s.plain.varTypes P).any (P.mapsRec ·)))=true) (h14:((c.ifaces == (fn.params.toList++s.plain.varTypes P).any (P.ifacesRec ·)))=true) (h15:((c.mapsOut == P.mapsAmong fn.resultTypes.toList))=true) (h16:((c.loops == (fn.params.toList++s.plain.varTypes P).any (P.loopsFrom ·)))=true) (h17:((c.wideKeys == (fn.params.toList++s.plain.varTypes P++fn.resultTypes.toList).any (P.wideKeysFrom ·)))=true) (h18:(s.vars.all (P.varReadable ·))=true) (h19:(fn.resultTypes.all (fun t => P.readableRec t && decide (t < P.types.size)))=true) (h20:((c.ifacesOut == fn.resultTypes.toList.any (P.ifacesRec ·)))=true) (h21:((c.loopsOut == fn.resultTypes.toList.any (P.loopsFrom ·)))=true) (h22:((c.plainKeys == P.plainKeys))=true) (h23:(c.shortTexts.isNone)=true) (h24:(P.stopsHeard)=true) (h25:(P.mayEnter)=true) (h26:((c.lifted == P.liftsFinal))=true) (h27:((P.make == some c.make))=true) (h28:((c.kinds == (if c.domain.isEmpty then [] else fn.params.toList.map fun t => match P.underlying t with | some (.int k) => some k | _ => none)))=true) (h29:((c.pinned == c.pinnedBy))=true) (h30:((c.veiled == (fn.params.toList++s.plain.varTypes P++fn.resultTypes.toList).any (P.veiledRec ·)))=true) (h31:(c.veiledFits P fn.params.toList (fn.params.toList++s.plain.varTypes P++fn.resultTypes.toList))=true):joinedFacts P f fn s c=true:=by
 have e:joinedFacts P f fn s c=(c.wf (OpenSpec.ofChange s) && laidOutB P && mapsRowed P && fn.params.all (P.readableRec ·) && namedTie P c.named s.vars && (c.stops == []) && (P.stops == []) && (c.knobs == []) && (P.stopKnobs == []) && (c.inPlace == P.inPlace f) && (c.unfollowed == P.unfollowed f) && (c.recurses == P.recurses f) && (c.named == P.varsNamed f) && (c.maps == (fn.params.toList++s.plain.varTypes P).any (P.mapsRec ·)) && (c.ifaces == (fn.params.toList++s.plain.varTypes P).any (P.ifacesRec ·)) && (c.mapsOut == P.mapsAmong fn.resultTypes.toList) && (c.loops == (fn.params.toList++s.plain.varTypes P).any (P.loopsFrom ·)) && (c.wideKeys == (fn.params.toList++s.plain.varTypes P++fn.resultTypes.toList).any (P.wideKeysFrom ·)) && s.vars.all (P.varReadable ·) && fn.resultTypes.all (fun t => P.readableRec t && decide (t < P.types.size)) && (c.ifacesOut == fn.resultTypes.toList.any (P.ifacesRec ·)) && (c.loopsOut == fn.resultTypes.toList.any (P.loopsFrom ·)) && (c.plainKeys == P.plainKeys) && c.shortTexts.isNone && P.stopsHeard && P.mayEnter && (c.lifted == P.liftsFinal) && (P.make == some c.make) && (c.kinds == (if c.domain.isEmpty then [] else fn.params.toList.map fun t => match P.underlying t with | some (.int k) => some k | _ => none)) && (c.pinned == c.pinnedBy) && (c.veiled == (fn.params.toList++s.plain.varTypes P++fn.resultTypes.toList).any (P.veiledRec ·)) && c.veiledFits P fn.params.toList (fn.params.toList++s.plain.varTypes P++fn.resultTypes.toList)):=rfl
 rw [e,h0,h1,h2,h3,h4,h5,h6,h7,h8,h9,h10,h11,h12,h13,h14,h15,h16,h17,h18,h19,h20,h21,h22,h23,h24,h25,h26,h27,h28,h29,h30,h31]
 rfl
theorem jk0:(Rows.topCarriedRow.wf (OpenSpec.ofChange Rows.topCarriedSpec))=true:=by kernel_rfl
theorem jk2:(mapsRowed Tryz.prog)=true:=by kernel_rfl
theorem jk3:(Tryz.f3.params.all (Tryz.prog.readableRec ·))=true:=by kernel_rfl
theorem jk4:(namedTie Tryz.prog Rows.topCarriedRow.named Rows.topCarriedSpec.vars)=true:=by kernel_rfl
theorem jk5:((Rows.topCarriedRow.stops == []))=true:=by kernel_rfl
theorem jk6:((Tryz.prog.stops == []))=true:=by kernel_rfl
theorem jk7:((Rows.topCarriedRow.knobs == []))=true:=by kernel_rfl
theorem jk8:((Tryz.prog.stopKnobs == []))=true:=by kernel_rfl
theorem jk9:((Rows.topCarriedRow.inPlace == Tryz.prog.inPlace 3))=true:=by kernel_rfl
theorem jk10:((Rows.topCarriedRow.unfollowed == Tryz.prog.unfollowed 3))=true:=by kernel_rfl
theorem jk11:((Rows.topCarriedRow.recurses == Tryz.prog.recurses 3))=true:=by kernel_rfl
theorem jk12:((Rows.topCarriedRow.named == Tryz.prog.varsNamed 3))=true:=by kernel_rfl
theorem jk13:((Rows.topCarriedRow.maps == (Tryz.f3.params.toList++Rows.topCarriedSpec.plain.varTypes Tryz.prog).any (Tryz.prog.mapsRec ·)))=true:=by kernel_rfl
theorem jk14:((Rows.topCarriedRow.ifaces == (Tryz.f3.params.toList++Rows.topCarriedSpec.plain.varTypes Tryz.prog).any (Tryz.prog.ifacesRec ·)))=true:=by kernel_rfl
theorem jk15:((Rows.topCarriedRow.mapsOut == Tryz.prog.mapsAmong Tryz.f3.resultTypes.toList))=true:=by kernel_rfl
theorem jk16:((Rows.topCarriedRow.loops == (Tryz.f3.params.toList++Rows.topCarriedSpec.plain.varTypes Tryz.prog).any (Tryz.prog.loopsFrom ·)))=true:=by kernel_rfl
theorem jk17:((Rows.topCarriedRow.wideKeys == (Tryz.f3.params.toList++Rows.topCarriedSpec.plain.varTypes Tryz.prog++Tryz.f3.resultTypes.toList).any (Tryz.prog.wideKeysFrom ·)))=true:=by kernel_rfl
theorem jk18:(Rows.topCarriedSpec.vars.all (Tryz.prog.varReadable ·))=true:=by kernel_rfl
theorem jk19:(Tryz.f3.resultTypes.all (fun t => Tryz.prog.readableRec t && decide (t < Tryz.prog.types.size)))=true:=by kernel_rfl
theorem jk20:((Rows.topCarriedRow.ifacesOut == Tryz.f3.resultTypes.toList.any (Tryz.prog.ifacesRec ·)))=true:=by kernel_rfl
theorem jk21:((Rows.topCarriedRow.loopsOut == Tryz.f3.resultTypes.toList.any (Tryz.prog.loopsFrom ·)))=true:=by kernel_rfl
theorem jk22:((Rows.topCarriedRow.plainKeys == Tryz.prog.plainKeys))=true:=by kernel_rfl
theorem jk23:(Rows.topCarriedRow.shortTexts.isNone)=true:=by kernel_rfl
theorem jk24:(Tryz.prog.stopsHeard)=true:=by kernel_rfl
theorem jk25:(Tryz.prog.mayEnter)=true:=by kernel_rfl
theorem jk26:((Rows.topCarriedRow.lifted == Tryz.prog.liftsFinal))=true:=by kernel_rfl
theorem jk27:((Tryz.prog.make == some Rows.topCarriedRow.make))=true:=by kernel_rfl
theorem jk28:((Rows.topCarriedRow.kinds == (if Rows.topCarriedRow.domain.isEmpty then [] else Tryz.f3.params.toList.map fun t => match Tryz.prog.underlying t with | some (.int k) => some k | _ => none)))=true:=by kernel_rfl
theorem jk29:((Rows.topCarriedRow.pinned == Rows.topCarriedRow.pinnedBy))=true:=by kernel_rfl
theorem jk30:((Rows.topCarriedRow.veiled == (Tryz.f3.params.toList++Rows.topCarriedSpec.plain.varTypes Tryz.prog++Tryz.f3.resultTypes.toList).any (Tryz.prog.veiledRec ·)))=true:=by kernel_rfl
theorem jk31:(Rows.topCarriedRow.veiledFits Tryz.prog Tryz.f3.params.toList (Tryz.f3.params.toList++Rows.topCarriedSpec.plain.varTypes Tryz.prog++Tryz.f3.resultTypes.toList))=true:=by kernel_rfl
theorem jall:joinedFacts Tryz.prog 3 Tryz.f3 Rows.topCarriedSpec Rows.topCarriedRow=true :=
 zsY jk0 laidOut jk2 jk3 jk4 jk5 jk6 jk7 jk8 jk9 jk10 jk11 jk12 jk13 jk14 jk15 jk16 jk17 jk18 jk19 jk20 jk21 jk22 jk23 jk24 jk25 jk26 jk27 jk28 jk29 jk30 jk31
end Go.Proofs.YtjmnjkoekabioaaGreatDoor.pTopCarried
