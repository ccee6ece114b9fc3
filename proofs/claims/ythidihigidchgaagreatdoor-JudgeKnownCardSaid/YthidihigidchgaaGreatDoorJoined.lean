/- The closed facts of the row, each by itself: all at once they outgrow the memory that one compile may take. -/
import Derived.Test.YthidihigidchgaaGreatDoorRows
import Derived.JoinedOf
import Derived.JoinedCond
import Derived.SevenTiedAt
import Derived.KernelRfl
import Derived.Test.YthidihigidchgaaGreatDoorJoA
import Derived.Test.YthidihigidchgaaGreatDoorJoB
import Derived.Test.YthidihigidchgaaGreatDoorJoC
set_option linter.unusedVariables false
set_option linter.unusedSimpArgs false
namespace Go.Proofs.YthidihigidchgaaGreatDoor.Own
set_option maxRecDepth 100000
theorem joined : joinedFacts Tryz.prog 3 Tryz.f3 Rows.judgeKnownSpec Rows.judgeKnownRow = true := by
  unfold joinedFacts
  simp only [Bool.and_eq_true]
  exact ⟨⟨⟨⟨⟨⟨⟨⟨⟨⟨⟨⟨⟨⟨⟨⟨⟨⟨⟨⟨⟨⟨⟨⟨⟨⟨⟨⟨⟨⟨⟨joined0, joined1⟩, joined2⟩, joined3⟩, joined4⟩, joined5⟩, joined6⟩, joined7⟩, joined8⟩, joined9⟩, joined10⟩, joined11⟩, joined12⟩, joined13⟩, joined14⟩, joined15⟩, joined16⟩, joined17⟩, joined18⟩, joined19⟩, joined20⟩, joined21⟩, joined22⟩, joined23⟩, joined24⟩, joined25⟩, joined26⟩, joined27⟩, joined28⟩, joined29⟩, joined30⟩, joined31⟩
end Go.Proofs.YthidihigidchgaaGreatDoor.Own
