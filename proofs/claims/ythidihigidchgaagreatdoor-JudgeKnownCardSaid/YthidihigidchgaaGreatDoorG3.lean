/- The card is well formed; no conditions. -/
import Derived.Test.YthidihigidchgaaGreatDoorRows
import Derived.SevenTiedAt
import Derived.Test.YthidihigidchgaaGreatDoorCards
import Derived.KernelRfl
set_option linter.unusedVariables false
set_option linter.unusedSimpArgs false
namespace Go.Proofs.YthidihigidchgaaGreatDoor.Own
set_option maxRecDepth 100000
theorem wfT : Rows.judgeKnownRow.wfByText (OpenSpec.ofChange Rows.judgeKnownSpec) = true := by kernel_rfl
theorem mainT : Tryz.prog.mainIs = some (Rows.judgeKnownCard.stood.harness.1, Rows.judgeKnownCard.stood.harness.2.toList) := by kernel_rfl
end Go.Proofs.YthidihigidchgaaGreatDoor.Own
