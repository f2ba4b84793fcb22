/- Texts that the last one of this claim imports. -/
import Derived.Test.YtmdcedioddchfaaGreatDoorCards
import Derived.JoinedOf
import Derived.Test.YtmdcedioddchfaaGreatDoorQ1
set_option linter.unusedVariables false
set_option linter.unusedSimpArgs false
set_option linter.unusedSectionVars false
set_option maxRecDepth 100000
namespace Go.Proofs.YtmdcedioddchfaaGreatDoor
open Go Go.ChangeShapes Go.WideShapes
theorem zj0:(Rows.topClippedGradeRow.wf (OpenSpec.ofChange Rows.topClippedGradeSpec))=true:=by kernel_rfl
theorem zj2:(mapsRowed Tryz.prog)=true:=by kernel_rfl
theorem zj3:(Tryz.f3.params.all (Tryz.prog.readableRec ·))=true:=by kernel_rfl
theorem zj4:(namedTie Tryz.prog Rows.topClippedGradeRow.named Rows.topClippedGradeSpec.vars)=true:=by kernel_rfl
theorem zj5:((Rows.topClippedGradeRow.stops == []))=true:=by kernel_rfl
theorem zj6:((Tryz.prog.stops == []))=true:=by kernel_rfl
theorem zj7:((Rows.topClippedGradeRow.knobs == []))=true:=by kernel_rfl
theorem zj8:((Tryz.prog.stopKnobs == []))=true:=by kernel_rfl
theorem zj13:((Rows.topClippedGradeRow.maps == (Tryz.f3.params.toList++Rows.topClippedGradeSpec.plain.varTypes Tryz.prog).any (Tryz.prog.mapsRec ·)))=true:=by kernel_rfl
theorem zj14:((Rows.topClippedGradeRow.ifaces == (Tryz.f3.params.toList++Rows.topClippedGradeSpec.plain.varTypes Tryz.prog).any (Tryz.prog.ifacesRec ·)))=true:=by kernel_rfl
theorem zj15:((Rows.topClippedGradeRow.mapsOut == Tryz.prog.mapsAmong Tryz.f3.resultTypes.toList))=true:=by kernel_rfl
theorem zj16:((Rows.topClippedGradeRow.loops == (Tryz.f3.params.toList++Rows.topClippedGradeSpec.plain.varTypes Tryz.prog).any (Tryz.prog.loopsFrom ·)))=true:=by kernel_rfl
theorem zj17:((Rows.topClippedGradeRow.wideKeys == (Tryz.f3.params.toList++Rows.topClippedGradeSpec.plain.varTypes Tryz.prog++Tryz.f3.resultTypes.toList).any (Tryz.prog.wideKeysFrom ·)))=true:=by kernel_rfl
theorem zj18:(Rows.topClippedGradeSpec.vars.all (Tryz.prog.varReadable ·))=true:=by kernel_rfl
theorem zj19:(Tryz.f3.resultTypes.all (fun t=>Tryz.prog.readableRec t && decide (t<Tryz.prog.types.size)))=true:=by kernel_rfl
theorem zj20:((Rows.topClippedGradeRow.ifacesOut == Tryz.f3.resultTypes.toList.any (Tryz.prog.ifacesRec ·)))=true:=by kernel_rfl
theorem zj21:((Rows.topClippedGradeRow.loopsOut == Tryz.f3.resultTypes.toList.any (Tryz.prog.loopsFrom ·)))=true:=by kernel_rfl
theorem zj22:((Rows.topClippedGradeRow.plainKeys == Tryz.prog.plainKeys))=true:=by kernel_rfl
theorem zj23:(Rows.topClippedGradeRow.shortTexts.isNone)=true:=by kernel_rfl
theorem zj24:(Tryz.prog.stopsHeard)=true:=by kernel_rfl
theorem zj25:(Tryz.prog.mayEnter)=true:=by kernel_rfl
theorem zj26:((Rows.topClippedGradeRow.lifted == Tryz.prog.liftsFinal))=true:=by kernel_rfl
theorem zj27:((Tryz.prog.make == some Rows.topClippedGradeRow.make))=true:=by kernel_rfl
theorem zj28:((Rows.topClippedGradeRow.kinds == (if Rows.topClippedGradeRow.domain.isEmpty then []else Tryz.f3.params.toList.map fun t=>match Tryz.prog.underlying t with | some (.int k)=>some k | _=>none)))=true:=by kernel_rfl
theorem zj29:((Rows.topClippedGradeRow.pinned == Rows.topClippedGradeRow.pinnedBy))=true:=by kernel_rfl
theorem zj30:((Rows.topClippedGradeRow.veiled == (Tryz.f3.params.toList++Rows.topClippedGradeSpec.plain.varTypes Tryz.prog++Tryz.f3.resultTypes.toList).any (Tryz.prog.veiledRec ·)))=true:=by kernel_rfl
theorem zj31:(Rows.topClippedGradeRow.veiledFits Tryz.prog Tryz.f3.params.toList (Tryz.f3.params.toList++Rows.topClippedGradeSpec.plain.varTypes Tryz.prog++Tryz.f3.resultTypes.toList))=true:=by kernel_rfl
end Go.Proofs.YtmdcedioddchfaaGreatDoor
