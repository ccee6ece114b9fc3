/- The program looks at values by what the card says; no conditions. -/
import Derived.Test.YthidihigidchgaaGreatDoorRows
import Derived.SevenTiedAt
import Derived.KernelRfl
set_option linter.unusedVariables false
set_option linter.unusedSimpArgs false
namespace Go.Proofs.YthidihigidchgaaGreatDoor.Own
set_option maxRecDepth 100000
theorem looksT : true = Tryz.prog.looks [] := by kernel_rfl
end Go.Proofs.YthidihigidchgaaGreatDoor.Own
