/- A part. -/
import Derived.Test.YtnffcfhdnjbdbaaGreatDoorCards
import Derived.JoinedOf
import Derived.Test.YtnffcfhdnjbdbaaGreatDoorQ1
set_option maxRecDepth 100000
namespace Go.Proofs.YtnffcfhdnjbdbaaGreatDoor
open Go Go.ChangeShapes Go.WideShapes
theorem zj0:(Rows.topPatchedMatchRow.wf (OpenSpec.ofChange Rows.topPatchedMatchSpec))=true:=by kernel_rfl
theorem zj2:(mapsRowed Tryz.prog)=true:=by kernel_rfl
theorem zj3:(Tryz.f3.params.all (Tryz.prog.readableRec ·))=true:=by kernel_rfl
theorem zj4:(namedTie Tryz.prog Rows.topPatchedMatchRow.named Rows.topPatchedMatchSpec.vars)=true:=by kernel_rfl
theorem zj5:((Rows.topPatchedMatchRow.stops == []))=true:=by kernel_rfl
theorem zj6:((Tryz.prog.stops == []))=true:=by kernel_rfl
theorem zj7:((Rows.topPatchedMatchRow.knobs == []))=true:=by kernel_rfl
theorem zj8:((Tryz.prog.stopKnobs == []))=true:=by kernel_rfl
theorem zj13:((Rows.topPatchedMatchRow.maps == (Tryz.f3.params.toList++Rows.topPatchedMatchSpec.plain.varTypes Tryz.prog).any (Tryz.prog.mapsRec ·)))=true:=by kernel_rfl
theorem zj14:((Rows.topPatchedMatchRow.ifaces == (Tryz.f3.params.toList++Rows.topPatchedMatchSpec.plain.varTypes Tryz.prog).any (Tryz.prog.ifacesRec ·)))=true:=by kernel_rfl
theorem zj15:((Rows.topPatchedMatchRow.mapsOut == Tryz.prog.mapsAmong Tryz.f3.resultTypes.toList))=true:=by kernel_rfl
theorem zj16:((Rows.topPatchedMatchRow.loops == (Tryz.f3.params.toList++Rows.topPatchedMatchSpec.plain.varTypes Tryz.prog).any (Tryz.prog.loopsFrom ·)))=true:=by kernel_rfl
theorem zj17:((Rows.topPatchedMatchRow.wideKeys == (Tryz.f3.params.toList++Rows.topPatchedMatchSpec.plain.varTypes Tryz.prog++Tryz.f3.resultTypes.toList).any (Tryz.prog.wideKeysFrom ·)))=true:=by kernel_rfl
theorem zj18:(Rows.topPatchedMatchSpec.vars.all (Tryz.prog.varReadable ·))=true:=by kernel_rfl
theorem zj19:(Tryz.f3.resultTypes.all (λt=>Tryz.prog.readableRec t && decide (t<Tryz.prog.types.size)))=true:=by kernel_rfl
theorem zj20:((Rows.topPatchedMatchRow.ifacesOut == Tryz.f3.resultTypes.toList.any (Tryz.prog.ifacesRec ·)))=true:=by kernel_rfl
theorem zj21:((Rows.topPatchedMatchRow.loopsOut == Tryz.f3.resultTypes.toList.any (Tryz.prog.loopsFrom ·)))=true:=by kernel_rfl
theorem zj22:((Rows.topPatchedMatchRow.plainKeys == Tryz.prog.plainKeys))=true:=by kernel_rfl
theorem zj23:(Rows.topPatchedMatchRow.shortTexts.isNone)=true:=by kernel_rfl
theorem zj24:(Tryz.prog.stopsHeard)=true:=by kernel_rfl
theorem zj25:(Tryz.prog.mayEnter)=true:=by kernel_rfl
theorem zj26:((Rows.topPatchedMatchRow.lifted == Tryz.prog.liftsFinal))=true:=by kernel_rfl
theorem zj27:((Tryz.prog.make == some Rows.topPatchedMatchRow.make))=true:=by kernel_rfl
theorem zj28:((Rows.topPatchedMatchRow.kinds == (if Rows.topPatchedMatchRow.domain.isEmpty then []else Tryz.f3.params.toList.map λt=>match Tryz.prog.underlying t with | some (.int k)=>some k | _=>none)))=true:=by kernel_rfl
theorem zj29:((Rows.topPatchedMatchRow.pinned == Rows.topPatchedMatchRow.pinnedBy))=true:=by kernel_rfl
theorem zj30:((Rows.topPatchedMatchRow.veiled == (Tryz.f3.params.toList++Rows.topPatchedMatchSpec.plain.varTypes Tryz.prog++Tryz.f3.resultTypes.toList).any (Tryz.prog.veiledRec ·)))=true:=by kernel_rfl
theorem zj31:(Rows.topPatchedMatchRow.veiledFits Tryz.prog Tryz.f3.params.toList (Tryz.f3.params.toList++Rows.topPatchedMatchSpec.plain.varTypes Tryz.prog++Tryz.f3.resultTypes.toList))=true:=by kernel_rfl
end Go.Proofs.YtnffcfhdnjbdbaaGreatDoor
