/- The tie of what the row lists to the program text, of its parts. -/
import Derived.Test.YthidihigidchgaaGreatDoorRows
import Derived.Test.YthidihigidchgaaGreatDoorTieA
import Derived.Test.YthidihigidchgaaGreatDoorTieB
import Derived.Test.YthidihigidchgaaGreatDoorTieC
import Derived.LaidByTextLater
import Derived.SevenTiedAt
import Derived.LaidSub
import Derived.LaidOnce
set_option linter.unusedVariables false
set_option linter.unusedSimpArgs false
namespace Go.Proofs.YthidihigidchgaaGreatDoor.Own
open Go
set_option maxRecDepth 100000
theorem noOwnUnsafe : Tryz.pinned.checked.prog.headLifts.contains "ownunsafe" = false := by kernel_rfl
theorem tie : Tryz.prog.laidByTextLater [("errors.errorType", Rows.laid_errors_errorType), ("internal/strconv.uint64pow10", Rows.laid_internal_strconv_uint64pow10), ("math/bits.deBruijn32tab", Rows.laid_math_bits_deBruijn32tab), ("math/bits.deBruijn64tab", Rows.laid_math_bits_deBruijn64tab), ("strconv.ErrSyntax", Rows.laid_strconv_ErrSyntax), ("strconv.ErrRange", Rows.laid_strconv_ErrRange)] [.handle, .data, .data, .data, .sentinel, .sentinel] true :=
  Program.laidByTextLater_by_one 400 8 65 hw hw2 hroot hk hg hn hrun
theorem judgeKnown_row_tie : Rows.judgeKnownRow.laidByTextAt .later Tryz.pinned [.handle, .data, .data, .data, .sentinel, .sentinel] true :=
  OpenClaim.laidByTextAt_later rfl rfl tie noOwnUnsafe
end Go.Proofs.YthidihigidchgaaGreatDoor.Own
