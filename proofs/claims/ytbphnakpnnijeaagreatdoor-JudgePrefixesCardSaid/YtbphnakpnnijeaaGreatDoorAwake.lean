/- The function awake returns true in every world and turns nothing that was there: no conditions. -/
import Derived.Test.YtbphnakpnnijeaaGreatDoorSyF
import Derived.Test.YtbphnakpnnijeaaGreatDoorWalk
import Derived.KernelRfl
namespace Go.Proofs.YtbphnakpnnijeaaGreatDoor.Own
open Go.RowKit
set_option maxHeartbeats 0 in
/-- the runner takes 'awake' to true: the kernel has run it -/
theorem awakeTop : Sy.top Tryz.prog [(234, .f64bits), (146, .idxByte)] 4 1000000 = true := by kernel_rfl
theorem ext234 : Sy.ExtFact Tryz.prog 234 .f64bits := ⟨Tryz.f234, Tryz.func234, by kernel_rfl, by kernel_rfl, by kernel_rfl, by kernel_rfl⟩
theorem ext146 : Sy.ExtFact Tryz.prog 146 .idxByte := ⟨Tryz.f146, Tryz.func146, by kernel_rfl, by kernel_rfl, by kernel_rfl, by kernel_rfl⟩
theorem exts (f : Nat) (e : Sy.Ext) (h : (f, e) ∈ [(234, Sy.Ext.f64bits), (146, Sy.Ext.idxByte)]) : Sy.ExtFact Tryz.prog f e := by
  simp only [List.mem_cons, Prod.mk.injEq, List.not_mem_nil, or_false] at h
  rcases h with ⟨rfl, rfl⟩ | ⟨rfl, rfl⟩
  · exact ext234
  · exact ext146
theorem awake : Awake := fun w =>
  (Sy.top_calls awakeTop (of_decide_eq_true (by kernel_rfl)) (by kernel_rfl) (by kernel_rfl) exts (by kernel_rfl) (by kernel_rfl) w).mono fun e w' h => ⟨h.1, ⟨h.2.1.os.1, h.2.1.os.2, h.2.1.output, h.2.2.1, h.2.2.2⟩⟩
end Go.Proofs.YtbphnakpnnijeaaGreatDoor.Own
