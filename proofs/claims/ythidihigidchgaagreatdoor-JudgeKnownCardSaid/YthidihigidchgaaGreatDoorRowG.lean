/- JudgeKnown: the law returns true: the card, tied to the program's text; the condition is the row's own (the listed variables read as the text lays them). -/
import Derived.Test.YthidihigidchgaaGreatDoorRowF
import Derived.Test.YthidihigidchgaaGreatDoorG1
import Derived.Test.YthidihigidchgaaGreatDoorG3
import Derived.Test.YthidihigidchgaaGreatDoorCards
import Derived.Test.YthidihigidchgaaGreatDoorOwnTie
import Derived.Test.YthidihigidchgaaGreatDoorRun
import Derived.WalkKit
import Derived.ProofKit
import Derived.OpenShut
import Derived.ChangeSame
import Derived.ChangeVars
import Derived.RowKit
import Derived.RowKitTokens
import Derived.LaidLaws
import Derived.Below
import Derived.Carry
import Derived.LaidHandle
import Derived.SevenTiedAt
import Derived.Deep.DeepHandedRow
import Derived.Deep.DeepWitnessRowRef
import Derived.Lib.LaidTab
set_option linter.unusedVariables false
set_option linter.unusedSimpArgs false
namespace Go.Proofs.YthidihigidchgaaGreatDoor.Own
open Go.ChangeShapes Go.WideShapes Go.ChangeAt Go.RowKit
/-- No parameter wants a stand-in; the program's own looks are off: what the card asks. -/
theorem plain (f : FuncId) (fn : Func) (hf : Tryz.pinned.checked.prog.funcNamed "prompter/prompterlaw30.JudgeKnown" = some f) (hfn : Tryz.pinned.checked.prog.funcs[f]? = some fn) :
    true = Tryz.pinned.checked.prog.looks [] ∧ ∀ (j : Nat) t, fn.params[j]? = some t → Tryz.pinned.checked.prog.wantsStandIn t = false := by
  obtain rfl : f = 3 := Option.some.inj ((show Tryz.prog.funcNamed "prompter/prompterlaw30.JudgeKnown" = some 3 by kernel_rfl).symm.trans hf) |>.symm
  obtain rfl : fn = Tryz.f3 := (Option.some.inj (Tryz.func3.symm.trans hfn)).symm
  refine ⟨looksT, fun j t ht => ?_⟩
  rw [Tryz.params3] at ht
  simp at ht
set_option maxRecDepth 1000000 in
theorem card : Rows.JudgeKnownCardSaid :=
  Claim7.holds_tied_plain_at .later [] _ _ _ _ said (fun _ h => by cases h) wfT (fun _ h => by cases h) judgeKnown_row_tie rfl ⟨rfl, rfl⟩ mainT rfl plain goesT
end Go.Proofs.YthidihigidchgaaGreatDoor.Own
namespace Go.Proofs.YthidihigidchgaaGreatDoor
theorem judgeKnown_holds : Rows.JudgeKnownCardSaid := Own.card
end Go.Proofs.YthidihigidchgaaGreatDoor
