/- The contract: from every world that meets the row's condition (the listed variables read as listed) JudgeKnown returns true. -/
import Derived.Test.YthidihigidchgaaGreatDoorRowA
import Derived.Test.YthidihigidchgaaGreatDoorCards
import Derived.Test.YthidihigidchgaaGreatDoorOwnTie
import Derived.Test.YthidihigidchgaaGreatDoorRun
import Derived.WalkKit
import Derived.ProofKit
import Derived.OpenShut
import Derived.ChangeSame
import Derived.ChangeVars
import Derived.RowKit
import Derived.RowKitTokens
import Derived.LaidLaws
import Derived.Below
import Derived.Carry
import Derived.LaidHandle
import Derived.SevenTiedAt
import Derived.Deep.DeepHandedRow
import Derived.Deep.DeepWitnessRowRef
import Derived.Lib.LaidTab
set_option linter.unusedVariables false
set_option linter.unusedSimpArgs false
namespace Go.Proofs.YthidihigidchgaaGreatDoor.Own
open Go.ChangeShapes Go.WideShapes Go.ChangeAt Go.RowKit
set_option maxRecDepth 100000 in
/-- WHAT THE RUN GIVES, FOR EVERY WORLD THAT MEETS THE CONDITION. -/
theorem contract (H : Type) (enc : TypeId × Value → H) (W : World) (args : Array Value) (ds gs : List (DataW H)) (before : List MemPlace)
    (hW : DataW.Whole enc Tryz.prog Tryz.f3.params.toList Rows.judgeKnownSpec.vars false W args.toList ds gs before) (hL : laidMetH Tryz.prog Rows.judgeKnownRow.laid W) :
    Calls Tryz.prog 3 args W fun e W' => ∃ v, e = .returned v ∧ Rows.judgeKnownSpec.post enc Tryz.prog Tryz.f3 false true false false W args v W' := by
  have hW' := hW
  obtain ⟨p, q, hA0, hV, rfl, hfz, hnd⟩ := hW
  have hA : DataW.TrodAll enc Tryz.prog W 0 (fun _ => true) true Tryz.f3.params.toList args.toList ds p := hA0
  rw [Tryz.params3] at hA
  obtain ⟨hargs, rfl, rfl⟩ := trodAll_nil hA
  obtain rfl : args = #[] := by cases args; simp_all
  obtain ⟨rfl, rfl⟩ := trodVars_none hV
  refine (known W (handle_of_laid hL)).mono fun e W' ⟨he, hl, hs, hk⟩ => ?_
  subst he
  exact ⟨_, rfl, _, _, _, [], _, [], hW', trodAll_mk1 (shut_bool Tryz.underlying4 _), trodAll_mk0, rfl, Below.frame (⟨hl.os.1, hl.os.2, hl.output, hs, hk⟩ : Below W.heap.size W W') _, fun h => by cases h⟩
end Go.Proofs.YthidihigidchgaaGreatDoor.Own
