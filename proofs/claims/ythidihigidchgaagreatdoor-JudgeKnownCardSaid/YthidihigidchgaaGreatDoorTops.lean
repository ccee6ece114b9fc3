/- The kernel has run the runner on JudgeKnown and on awake: both to true; no conditions. -/
import Derived.Test.YthidihigidchgaaGreatDoorSyF
import Derived.Test.YthidihigidchgaaGreatDoorProg
import Derived.KernelRfl
set_option linter.unusedVariables false
set_option linter.unusedSimpArgs false
namespace Go.Proofs.YthidihigidchgaaGreatDoor.Own
set_option maxHeartbeats 0
set_option maxRecDepth 10000000 in
/-- the runner takes 'JudgeKnown' to true: the kernel has run it -/
theorem knownTop : Sy.topG Tryz.prog [(234, .idxByte), (375, .f64bits)] [(8, .yes), (67, .asErr 0 329 10 169 166 171)] 3 1000000 0 329 10 169 = true := by kernel_rfl
set_option maxRecDepth 10000000 in
/-- and 'awake' -/
theorem awakeTop : Sy.top Tryz.prog [(234, .idxByte), (375, .f64bits)] [] 8 1000000 = true := by kernel_rfl
end Go.Proofs.YthidihigidchgaaGreatDoor.Own
