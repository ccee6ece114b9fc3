/- The closed facts of the row, each by itself: all at once they outgrow the memory that one compile may take. -/
import Derived.Test.YthidihigidchgaaGreatDoorRows
import Derived.JoinedOf
import Derived.JoinedCond
import Derived.SevenTiedAt
import Derived.KernelRfl
set_option linter.unusedVariables false
set_option linter.unusedSimpArgs false
namespace Go.Proofs.YthidihigidchgaaGreatDoor.Own
set_option maxRecDepth 100000
theorem joined0 : (Rows.judgeKnownRow.wf (OpenSpec.ofChange Rows.judgeKnownSpec)) = true := by kernel_rfl
theorem joined1 : (laidOutB Tryz.prog) = true := by kernel_rfl
theorem joined2 : (mapsRowed Tryz.prog) = true := by kernel_rfl
theorem joined3 : (Tryz.f3.params.all (Tryz.prog.readableRec ·)) = true := by kernel_rfl
theorem joined4 : (namedTie Tryz.prog Rows.judgeKnownRow.named Rows.judgeKnownSpec.vars) = true := by kernel_rfl
theorem joined5 : ((Rows.judgeKnownRow.stops == [])) = true := by kernel_rfl
theorem joined6 : ((Tryz.prog.stops == [])) = true := by kernel_rfl
theorem joined7 : ((Rows.judgeKnownRow.knobs == [])) = true := by kernel_rfl
theorem joined8 : ((Tryz.prog.stopKnobs == [])) = true := by kernel_rfl
end Go.Proofs.YthidihigidchgaaGreatDoor.Own
