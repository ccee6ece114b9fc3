/- JudgeKnown returns true from every world whose errors.errorType is laid, and leaves all old blocks as they were. -/
import Derived.Test.YthidihigidchgaaGreatDoorTops
import Derived.Test.YthidihigidchgaaGreatDoorAs
import Derived.Test.YthidihigidchgaaGreatDoorProg
import Derived.KernelRfl
set_option linter.unusedVariables false
set_option linter.unusedSimpArgs false
namespace Go.Proofs.YthidihigidchgaaGreatDoor.Own
open Go.RowKit
set_option maxHeartbeats 0
theorem ext234 : Sy.ExtFact Tryz.prog 234 .idxByte := ⟨Tryz.f234, Tryz.func234, by kernel_rfl, by kernel_rfl, by kernel_rfl, by kernel_rfl⟩
theorem ext375 : Sy.ExtFact Tryz.prog 375 .f64bits := ⟨Tryz.f375, Tryz.func375, by kernel_rfl, by kernel_rfl, by kernel_rfl, by kernel_rfl⟩
theorem exts (f : Nat) (e : Sy.Ext) (h : (f, e) ∈ [(234, Sy.Ext.idxByte), (375, Sy.Ext.f64bits)]) : Sy.ExtFact Tryz.prog f e := by
  simp only [List.mem_cons, Prod.mk.injEq, List.not_mem_nil, or_false] at h
  rcases h with ⟨rfl, rfl⟩ | ⟨rfl, rfl⟩
  · exact ext234
  · exact ext375
theorem deep : 30 ≤ Tryz.prog.depth := of_decide_eq_true (by kernel_rfl)
theorem names : Sy.namesOK Tryz.prog.funcs.toList = true := by kernel_rfl
theorem structs : Sy.structsOK Tryz.prog.types.size Tryz.prog.types.toList = true := by kernel_rfl
theorem rec : Tryz.prog.follows .rangeFuncRecover = true := by kernel_rfl
theorem mix : Tryz.prog.follows .mixedOrders = true := by kernel_rfl
theorem awakeKnown : Sy.KnownFact Tryz.prog 8 .yes := Sy.yes_fact fun w => Sy.top_calls awakeTop deep names structs exts (fun _ _ h => by cases h) rec mix w
/-- four blocks more -/
theorem asW_old (w : World) (t : Addr) (x y : Value) (c : Nat) (hc : c < w.heap.size) : (asW w t x y).heap[c]? = w.heap[c]? := by
  unfold asW
  simp only [World.alloc, Array.getElem?_push, Array.size_push]
  rw [if_neg (by omega), if_neg (by omega), if_neg (by omega), if_neg (by omega)]
theorem like_alloc (w : World) (o : Obj) : Sy.Like w (w.alloc o) := Sy.Like.push ⟨rfl, rfl⟩ rfl rfl
theorem asW_like (w : World) (t : Addr) (x y : Value) : Sy.Like w (asW w t x y) := by
  unfold asW
  exact (((like_alloc _ _).trans (like_alloc _ _)).trans (like_alloc _ _)).trans (like_alloc _ _)
theorem asKnown : Sy.KnownFact Tryz.prog 67 (.asErr 0 329 10 169 166 171) := Sy.asErr_fact fun x y ad w hg =>
  ⟨asW w ad x y, asW_old w ad x y, asW_like w ad x y, fun W' hs => as_hit x y ad w W' hg (as_load w ad x y) hs⟩
theorem known (w : World) (hw : w.cell? ⟨0, 0, none⟩ = some (.iface 329 (.agg #[.pointer (some ⟨10, 169, none⟩)]))) :
    Calls Tryz.prog 3 #[] w fun e w' => e = .returned (.bool true) ∧ Sy.Like w w' ∧ w.heap.size ≤ w'.heap.size ∧ ∀ b, b < w.heap.size → w'.heap[b]? = w.heap[b]? := by
  refine Sy.topG_calls knownTop deep names structs exts (fun f e h => ?_) rec mix w ?_
  · simp only [List.mem_cons, Prod.mk.injEq, List.not_mem_nil, or_false] at h
    rcases h with ⟨rfl, rfl⟩ | ⟨rfl, rfl⟩
    · exact awakeKnown
    · exact asKnown
  · unfold World.cell? at hw
    split at hw
    · rename_i c el fr hh
      exact ⟨c, el, fr, hh, by simpa using hw⟩
    · cases hw
end Go.Proofs.YthidihigidchgaaGreatDoor.Own
