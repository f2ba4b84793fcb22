/- Texts that the last one of this claim imports. -/
import Derived.Test.YtadbifpalpdocaaGreatDoorCards
import Derived.JoinedOf
import Derived.Test.YtadbifpalpdocaaGreatDoorQ1
set_option linter.unusedVariables false
set_option linter.unusedSimpArgs false
set_option linter.unusedSectionVars false
set_option maxRecDepth 100000
namespace Go.Proofs.YtadbifpalpdocaaGreatDoor
open Go Go.ChangeShapes Go.WideShapes
theorem zj0 : (Rows.topGluedBoilRow.wf (OpenSpec.ofChange Rows.topGluedBoilSpec)) = true := by kernel_rfl
theorem zj2 : (mapsRowed Tryz.prog) = true := by kernel_rfl
theorem zj3 : (Tryz.f3.params.all (Tryz.prog.readableRec ·)) = true := by kernel_rfl
theorem zj4 : (namedTie Tryz.prog Rows.topGluedBoilRow.named Rows.topGluedBoilSpec.vars) = true := by kernel_rfl
theorem zj5 : ((Rows.topGluedBoilRow.stops == [])) = true := by kernel_rfl
theorem zj6 : ((Tryz.prog.stops == [])) = true := by kernel_rfl
theorem zj7 : ((Rows.topGluedBoilRow.knobs == [])) = true := by kernel_rfl
theorem zj8 : ((Tryz.prog.stopKnobs == [])) = true := by kernel_rfl
theorem zj13 : ((Rows.topGluedBoilRow.maps == (Tryz.f3.params.toList ++ Rows.topGluedBoilSpec.plain.varTypes Tryz.prog).any (Tryz.prog.mapsRec ·))) = true := by kernel_rfl
theorem zj14 : ((Rows.topGluedBoilRow.ifaces == (Tryz.f3.params.toList ++ Rows.topGluedBoilSpec.plain.varTypes Tryz.prog).any (Tryz.prog.ifacesRec ·))) = true := by kernel_rfl
theorem zj15 : ((Rows.topGluedBoilRow.mapsOut == Tryz.prog.mapsAmong Tryz.f3.resultTypes.toList)) = true := by kernel_rfl
theorem zj16 : ((Rows.topGluedBoilRow.loops == (Tryz.f3.params.toList ++ Rows.topGluedBoilSpec.plain.varTypes Tryz.prog).any (Tryz.prog.loopsFrom ·))) = true := by kernel_rfl
theorem zj17 : ((Rows.topGluedBoilRow.wideKeys == (Tryz.f3.params.toList ++ Rows.topGluedBoilSpec.plain.varTypes Tryz.prog ++ Tryz.f3.resultTypes.toList).any (Tryz.prog.wideKeysFrom ·))) = true := by kernel_rfl
theorem zj18 : (Rows.topGluedBoilSpec.vars.all (Tryz.prog.varReadable ·)) = true := by kernel_rfl
theorem zj19 : (Tryz.f3.resultTypes.all (fun t => Tryz.prog.readableRec t && decide (t < Tryz.prog.types.size))) = true := by kernel_rfl
theorem zj20 : ((Rows.topGluedBoilRow.ifacesOut == Tryz.f3.resultTypes.toList.any (Tryz.prog.ifacesRec ·))) = true := by kernel_rfl
theorem zj21 : ((Rows.topGluedBoilRow.loopsOut == Tryz.f3.resultTypes.toList.any (Tryz.prog.loopsFrom ·))) = true := by kernel_rfl
theorem zj22 : ((Rows.topGluedBoilRow.plainKeys == Tryz.prog.plainKeys)) = true := by kernel_rfl
theorem zj23 : (Rows.topGluedBoilRow.shortTexts.isNone) = true := by kernel_rfl
theorem zj24 : (Tryz.prog.stopsHeard) = true := by kernel_rfl
theorem zj25 : (Tryz.prog.mayEnter) = true := by kernel_rfl
theorem zj26 : ((Rows.topGluedBoilRow.lifted == Tryz.prog.liftsFinal)) = true := by kernel_rfl
theorem zj27 : ((Tryz.prog.make == some Rows.topGluedBoilRow.make)) = true := by kernel_rfl
theorem zj28 : ((Rows.topGluedBoilRow.kinds == (if Rows.topGluedBoilRow.domain.isEmpty then [] else Tryz.f3.params.toList.map fun t => match Tryz.prog.underlying t with | some (.int k) => some k | _ => none))) = true := by kernel_rfl
theorem zj29 : ((Rows.topGluedBoilRow.pinned == Rows.topGluedBoilRow.pinnedBy)) = true := by kernel_rfl
theorem zj30 : ((Rows.topGluedBoilRow.veiled == (Tryz.f3.params.toList ++ Rows.topGluedBoilSpec.plain.varTypes Tryz.prog ++ Tryz.f3.resultTypes.toList).any (Tryz.prog.veiledRec ·))) = true := by kernel_rfl
theorem zj31 : (Rows.topGluedBoilRow.veiledFits Tryz.prog Tryz.f3.params.toList (Tryz.f3.params.toList ++ Rows.topGluedBoilSpec.plain.varTypes Tryz.prog ++ Tryz.f3.resultTypes.toList)) = true := by kernel_rfl
end Go.Proofs.YtadbifpalpdocaaGreatDoor
