/- The closed facts of the row, each by itself: all at once they outgrow the memory that one compile may take. -/
import Derived.Test.YthidihigidchgaaGreatDoorRows
import Derived.JoinedOf
import Derived.JoinedCond
import Derived.SevenTiedAt
import Derived.KernelRfl
import Derived.Test.YthidihigidchgaaGreatDoorCl
set_option linter.unusedVariables false
set_option linter.unusedSimpArgs false
namespace Go.Proofs.YthidihigidchgaaGreatDoor.Own
set_option maxRecDepth 100000
theorem joined9 : ((Rows.judgeKnownRow.inPlace == Tryz.prog.inPlace 3)) = true := by
  unfold Program.inPlace; rw [closureEq]; kernel_rfl
theorem unfollowedT : Tryz.prog.unfollowed 3 = true := by
  unfold Program.unfollowed; rw [closureEq]; kernel_rfl
theorem joined10 : ((Rows.judgeKnownRow.unfollowed == Tryz.prog.unfollowed 3)) = true := by
  rw [unfollowedT]; kernel_rfl
theorem joined11 : ((Rows.judgeKnownRow.recurses == Tryz.prog.recurses 3)) = true := by
  unfold Program.recurses; rw [unfollowedT, Bool.true_or]; kernel_rfl
theorem joined12 : ((Rows.judgeKnownRow.named == Tryz.prog.varsNamed 3)) = true := by
  unfold Program.varsNamed; rw [closureEq]; kernel_rfl
theorem namedT : Tryz.prog.funcNamed Rows.judgeKnownRow.func = some 3 := by kernel_rfl
theorem goes3 : Tryz.prog.goes 3 = false := by
  unfold Program.goes; rw [closureEq, unfollowedT]; kernel_rfl
theorem goesT : false = Rows.judgeKnownRow.goesBy Tryz.prog := by
  unfold OpenClaim.goesBy Program.goesAt Program.goesFrom
  rw [namedT, Option.any_some, goes3]
  kernel_rfl
end Go.Proofs.YthidihigidchgaaGreatDoor.Own
