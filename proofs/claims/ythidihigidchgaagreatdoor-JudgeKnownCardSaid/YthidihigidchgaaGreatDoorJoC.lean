/- The closed facts of the row, each by itself: all at once they outgrow the memory that one compile may take. -/
import Derived.Test.YthidihigidchgaaGreatDoorRows
import Derived.JoinedOf
import Derived.JoinedCond
import Derived.SevenTiedAt
import Derived.KernelRfl
set_option linter.unusedVariables false
set_option linter.unusedSimpArgs false
namespace Go.Proofs.YthidihigidchgaaGreatDoor.Own
set_option maxRecDepth 100000
theorem joined13 : ((Rows.judgeKnownRow.maps == (Tryz.f3.params.toList ++ Rows.judgeKnownSpec.plain.varTypes Tryz.prog).any (Tryz.prog.mapsRec ·))) = true := by kernel_rfl
theorem joined14 : ((Rows.judgeKnownRow.ifaces == (Tryz.f3.params.toList ++ Rows.judgeKnownSpec.plain.varTypes Tryz.prog).any (Tryz.prog.ifacesRec ·))) = true := by kernel_rfl
theorem joined15 : ((Rows.judgeKnownRow.mapsOut == Tryz.prog.mapsAmong Tryz.f3.resultTypes.toList)) = true := by kernel_rfl
theorem joined16 : ((Rows.judgeKnownRow.loops == (Tryz.f3.params.toList ++ Rows.judgeKnownSpec.plain.varTypes Tryz.prog).any (Tryz.prog.loopsFrom ·))) = true := by kernel_rfl
theorem joined17 : ((Rows.judgeKnownRow.wideKeys == (Tryz.f3.params.toList ++ Rows.judgeKnownSpec.plain.varTypes Tryz.prog ++ Tryz.f3.resultTypes.toList).any (Tryz.prog.wideKeysFrom ·))) = true := by kernel_rfl
theorem joined18 : (Rows.judgeKnownSpec.vars.all (Tryz.prog.varReadable ·)) = true := by kernel_rfl
theorem joined19 : (Tryz.f3.resultTypes.all (fun t => Tryz.prog.readableRec t && decide (t < Tryz.prog.types.size))) = true := by kernel_rfl
theorem joined20 : ((Rows.judgeKnownRow.ifacesOut == Tryz.f3.resultTypes.toList.any (Tryz.prog.ifacesRec ·))) = true := by kernel_rfl
theorem joined21 : ((Rows.judgeKnownRow.loopsOut == Tryz.f3.resultTypes.toList.any (Tryz.prog.loopsFrom ·))) = true := by kernel_rfl
theorem joined22 : ((Rows.judgeKnownRow.plainKeys == Tryz.prog.plainKeys)) = true := by kernel_rfl
theorem joined23 : (Rows.judgeKnownRow.shortTexts.isNone) = true := by kernel_rfl
theorem joined24 : (Tryz.prog.stopsHeard) = true := by kernel_rfl
theorem joined25 : (Tryz.prog.mayEnter) = true := by kernel_rfl
theorem joined26 : ((Rows.judgeKnownRow.lifted == Tryz.prog.liftsFinal)) = true := by kernel_rfl
theorem joined27 : ((Tryz.prog.make == some Rows.judgeKnownRow.make)) = true := by kernel_rfl
theorem joined28 : ((Rows.judgeKnownRow.kinds == (if Rows.judgeKnownRow.domain.isEmpty then [] else Tryz.f3.params.toList.map fun t => match Tryz.prog.underlying t with | some (.int k) => some k | _ => none))) = true := by kernel_rfl
theorem joined29 : ((Rows.judgeKnownRow.pinned == Rows.judgeKnownRow.pinnedBy)) = true := by kernel_rfl
theorem joined30 : ((Rows.judgeKnownRow.veiled == (Tryz.f3.params.toList ++ Rows.judgeKnownSpec.plain.varTypes Tryz.prog ++ Tryz.f3.resultTypes.toList).any (Tryz.prog.veiledRec ·))) = true := by kernel_rfl
theorem joined31 : (Rows.judgeKnownRow.veiledFits Tryz.prog Tryz.f3.params.toList (Tryz.f3.params.toList ++ Rows.judgeKnownSpec.plain.varTypes Tryz.prog ++ Tryz.f3.resultTypes.toList)) = true := by kernel_rfl
end Go.Proofs.YthidihigidchgaaGreatDoor.Own
