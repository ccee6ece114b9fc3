/- errors.As at a target of the error's own type, a struct of two cells: it is found, and laid into the target. -/
import Derived.Test.YthidihigidchgaaGreatDoorProg
import Derived.WalkKit
import Derived.LaidEql
import Derived.Stop.Asserts
import Derived.RowKitTokens
set_option linter.unusedVariables false
set_option linter.unusedSimpArgs false
namespace Go.Proofs.YthidihigidchgaaGreatDoor.Own
open Go.RowKit Go.Extern.Stop Go.Stop Go.Extern
/-! CLOSED FACTS: 166: replay.wrong, 171: *replay.wrong, 169: error, 329: reflectlite's rtype, 10: the types' block. -/
theorem aw_valueOf171 (t : Addr) (w : World) : (ReflectliteValue.unpack (.iface 171 (.pointer (some t)))).run Tryz.prog w
    = .ok (.agg #[.pointer (some ⟨10, 171, none⟩), .pointer (some ⟨w.heap.size, 0, none⟩), .int .u64 150]) (w.alloc (.cells #[.pointer (some t)] 171)) := by kernel_rfl
theorem aw_type171 (a : Addr) (w : World) : (ReflectliteValue.methodAny (ReflectliteValue.valueError "reflectlite.Value.Type" 0) (fun t _ _ _ => ReflectliteType.toType t) #[.agg #[.pointer (some ⟨10, 171, none⟩), .pointer (some a), .int .u64 150]]).run Tryz.prog w
    = .ok (.iface 329 (.agg #[.pointer (some ⟨10, 171, none⟩)])) w := by kernel_rfl
theorem aw_methodKind (h : Value) (w : World) : (Go.method 774 329 (.agg #[h]) "Kind").run Tryz.prog w = .ok (524, h) w := by kernel_rfl
theorem aw_kind171 (w : World) : ((ReflectliteType.abiMethod fun t => (fun a : Nat => Value.int IntKind.u8 (a : Int)) <$> Rtype.kind t) #[.pointer (some ⟨10, 171, none⟩)]).run Tryz.prog w = .ok (.int .u8 22) w := by kernel_rfl
theorem aw_kind166 (w : World) : ((ReflectliteType.abiMethod fun t => (fun a : Nat => Value.int IntKind.u8 (a : Int)) <$> Rtype.kind t) #[.pointer (some ⟨10, 166, none⟩)]).run Tryz.prog w = .ok (.int .u8 25) w := by kernel_rfl
theorem rlm (z : Sem Value) (f : TypeId → Addr → Nat → Nat → Sem Value) (v : Value) :
    ReflectliteValue.method z f #[v] = (do match ← ReflectliteValue.parts v with | none => z | some (t, a, fl) => f t a fl (fl % 32)) := rfl
theorem aw_parts171 (a : Addr) (w : World) : (ReflectliteValue.parts (.agg #[.pointer (some ⟨10, 171, none⟩), .pointer (some a), .int .u64 150])).run Tryz.prog w = .ok (some (171, a, 150)) w := by kernel_rfl
theorem aw_isNil171 (a p : Addr) (W : World) (ha : W.cell? a = some (.pointer (some p))) :
    (ReflectliteValue.method (ReflectliteValue.valueError "reflectlite.Value.IsNil" 0) ReflectliteValue.isNil #[.agg #[.pointer (some ⟨10, 171, none⟩), .pointer (some a), .int .u64 150]]).run Tryz.prog W = .ok (.bool false) W := by
  rw [rlm]
  simp only [Sem.run_bind, aw_parts171, Result.andThen]
  simp [ReflectliteValue.isNil, loadVar, isAgg, underlying, Tryz.underlying171, ha, Result.andThen]
theorem aw_methodElem (h : Value) (w : World) : (Go.method 774 329 (.agg #[h]) "Elem").run Tryz.prog w = .ok (542, .agg #[h]) w := by kernel_rfl
theorem aw_methodImplements (h : Value) (w : World) : (Go.method 774 329 (.agg #[h]) "Implements").run Tryz.prog w = .ok (543, .agg #[h]) w := by kernel_rfl
theorem aw_methodAssignableTo (h : Value) (w : World) : (Go.method 774 329 (.agg #[h]) "AssignableTo").run Tryz.prog w = .ok (540, .agg #[h]) w := by kernel_rfl
theorem aw_elem171 (w : World) : (ReflectliteType.method ReflectliteType.elem #[.agg #[.pointer (some ⟨10, 171, none⟩)]]).run Tryz.prog w = .ok (.iface 329 (.agg #[.pointer (some ⟨10, 166, none⟩)])) w := by kernel_rfl
theorem aw_implements166 (w : World) : (ReflectliteType.relation "Implements" ReflectliteType.implements_ #[.agg #[.pointer (some ⟨10, 166, none⟩)], .iface 329 (.agg #[.pointer (some ⟨10, 169, none⟩)])]).run Tryz.prog w = .ok (.bool true) w := by kernel_rfl
theorem aw_typeOf166 (v : Value) (w : World) : (ReflectliteType.typeOf #[.iface 166 v]).run Tryz.prog w = .ok (.iface 329 (.agg #[.pointer (some ⟨10, 166, none⟩)])) w := by kernel_rfl
theorem aw_assignable166 (w : World) : (ReflectliteType.relation "AssignableTo" ReflectliteType.assignableTo #[.agg #[.pointer (some ⟨10, 166, none⟩)], .iface 329 (.agg #[.pointer (some ⟨10, 166, none⟩)])]).run Tryz.prog w = .ok (.bool true) w := by kernel_rfl
theorem aw_valueOf166 (x y : Value) (w : World) : (ReflectliteValue.unpack (.iface 166 (.agg #[x, y]))).run Tryz.prog w
    = .ok (.agg #[.pointer (some ⟨10, 166, none⟩), .pointer (some ⟨w.heap.size, 0, none⟩), .int .u64 153]) (w.alloc (.cells #[x, y] 166)) := by kernel_rfl
theorem aw_elemOf171 (w : World) : (Rtype.elem? 171).run Tryz.prog w = .ok (some 166) w := by kernel_rfl
theorem aw_mk166 (p : Addr) (w : World) : (ReflectliteValue.mk 166 p ReflectliteValue.flagAddr).run Tryz.prog w = .ok (.agg #[.pointer (some ⟨10, 166, none⟩), .pointer (some p), .int .u64 409]) w := by kernel_rfl
theorem aw_elemV171 (a p : Addr) (W : World) (ha : W.cell? a = some (.pointer (some p))) :
    (ReflectliteValue.method (ReflectliteValue.valueError "reflectlite.Value.Elem" 0) ReflectliteValue.elem #[.agg #[.pointer (some ⟨10, 171, none⟩), .pointer (some a), .int .u64 150]]).run Tryz.prog W
      = .ok (.agg #[.pointer (some ⟨10, 166, none⟩), .pointer (some p), .int .u64 409]) W := by
  rw [rlm]
  simp only [Sem.run_bind, aw_parts171, Result.andThen]
  simp [ReflectliteValue.elem, loadVar, isAgg, underlying, Tryz.underlying171, ha, Result.andThen, aw_elemOf171, aw_mk166]
theorem rls (v x : Value) : ReflectliteValue.set #[v, x] = (do
    let (some (dst, a, fl), some (src, b, _)) := (← ReflectliteValue.parts v, ← ReflectliteValue.parts x)
      | unsupported (.noEntry "extern/(internal/reflectlite.Value).Set.zeroValue")
    if fl / ReflectliteValue.flagAddr % 2 == 0 then unsupported (.noEntry "extern/(internal/reflectlite.Value).Set.unaddressable")
    let val ← loadVar src b
    if ← Rtype.directlyAssignable dst src then storeVar dst a val
    else if ← Rtype.implements dst src then
      if (← Rtype.kind src) == 20 then
        match val with
        | .nilIface => unsupported (.noEntry "extern/reflectlite: a nil value of one interface type handed on as a value of another")
        | _ => storeVar dst a val
      else storeVar dst a (.iface src val)
    else panicString ("reflectlite.Set: value of type " ++ (← Rtype.spelt src) ++ " is not assignable to type " ++ (← Rtype.spelt dst))
    pure (.tuple #[])) := rfl
theorem aw_parts166a (a : Addr) (w : World) : (ReflectliteValue.parts (.agg #[.pointer (some ⟨10, 166, none⟩), .pointer (some a), .int .u64 409])).run Tryz.prog w = .ok (some (166, a, 409)) w := by kernel_rfl
theorem aw_parts166 (a : Addr) (w : World) : (ReflectliteValue.parts (.agg #[.pointer (some ⟨10, 166, none⟩), .pointer (some a), .int .u64 153])).run Tryz.prog w = .ok (some (166, a, 153)) w := by kernel_rfl
theorem aw_direct166 (w : World) : (Rtype.directlyAssignable 166 166).run Tryz.prog w = .ok true w := by kernel_rfl
theorem aw_size166 (w : World) : (sizeOf 166).run Tryz.prog w = .ok 2 w := by kernel_rfl
theorem aw_set166 (ta b : Addr) (x : Value) (W W' : World) (hb : (loadVar 166 b).run Tryz.prog W = .ok x W) (hs : (storeVar 166 ta x).run Tryz.prog W = .ok () W') :
    (ReflectliteValue.set #[.agg #[.pointer (some ⟨10, 166, none⟩), .pointer (some ta), .int .u64 409], .agg #[.pointer (some ⟨10, 166, none⟩), .pointer (some b), .int .u64 153]]).run Tryz.prog W
      = .ok (.tuple #[]) W' := by
  rw [rls]
  simp only [Sem.run_bind, aw_parts166a, aw_parts166, Result.andThen_ok]
  rw [if_neg (by decide)]
  simp only [Sem.run_bind, Sem.run_pure, Result.andThen_ok]
  rw [hb]
  simp only [Result.andThen_ok, aw_direct166, if_true]
  rw [Sem.run_bind, hs]
  rfl
/-- what the four new blocks are -/
def asW (w : World) (t : Addr) (x y : Value) : World := (((w.alloc (.cells #[.pointer (some t)] 171)).alloc (.cells #[.pointer (some ⟨10, 171, none⟩), .pointer (some ⟨w.heap.size, 0, none⟩), .int .u64 150] 262)).alloc (.cells #[.pointer (some ⟨10, 171, none⟩), .pointer (some ⟨w.heap.size, 0, none⟩), .int .u64 150] 262)).alloc (.cells #[x, y] 166)
/-- the last block, read as a struct -/
theorem as_load (w : World) (t : Addr) (x y : Value) : (loadVar 166 ⟨w.heap.size + 1 + 1 + 1, 0, none⟩).run Tryz.prog (asW w t x y) = .ok (.agg #[x, y]) (asW w t x y) := by
  have hb : (asW w t x y).heap[w.heap.size + 1 + 1 + 1]? = some (.cells #[x, y] 166) := by
    unfold asW
    simp only [World.alloc]
    have : w.heap.size + 1 + 1 + 1 = (((w.heap.push (.cells #[.pointer (some t)] 171)).push (.cells #[.pointer (some ⟨10, 171, none⟩), .pointer (some ⟨w.heap.size, 0, none⟩), .int .u64 150] 262)).push (.cells #[.pointer (some ⟨10, 171, none⟩), .pointer (some ⟨w.heap.size, 0, none⟩), .int .u64 150] 262)).size := by simp
    rw [this, Array.getElem?_push_size]
  have h0 : (asW w t x y).cell? ⟨w.heap.size + 1 + 1 + 1, 0, none⟩ = some x := by simp [World.cell?, hb]
  have h1 : (asW w t x y).cell? ⟨w.heap.size + 1 + 1 + 1, 1, none⟩ = some y := by simp [World.cell?, hb]
  simp [loadVar, isAgg, underlying, Tryz.underlying166, aw_size166, loadCells, loadCellsFrom, Addr.add, h0, h1, Result.andThen]
set_option maxHeartbeats 4000000 in
theorem as_hit (x y : Value) (t : Addr) (w W' : World) (hg : w.cell? ⟨0, 0, none⟩ = some (.iface 329 (.agg #[.pointer (some ⟨10, 169, none⟩)])))
    (hl : (loadVar 166 ⟨w.heap.size + 1 + 1 + 1, 0, none⟩).run Tryz.prog (asW w t x y) = .ok (.agg #[x, y]) (asW w t x y)) (hs : (storeVar 166 t (.agg #[x, y])).run Tryz.prog (asW w t x y) = .ok () W') :
    Calls Tryz.prog 67 #[.iface 166 (.agg #[x, y]), .iface 171 (.pointer (some t))] w fun ev w' => ev = .returned (.bool true) ∧ w' = W' := by
  have h6 := @run_callFunc_extern Tryz.prog 118 _ (fun args => ReflectliteValue.unpack (args.getD 0 (.tuple #[]))) Tryz.func118 (by kernel_rfl) (by kernel_rfl) (by kernel_rfl) (by kernel_rfl)
  have h7 := @run_callFunc_extern Tryz.prog 119 _ (ReflectliteValue.methodAny (ReflectliteValue.valueError "reflectlite.Value.Type" 0) (fun t _ _ _ => ReflectliteType.toType t)) Tryz.func119 (by kernel_rfl) (by kernel_rfl) (by kernel_rfl) (by kernel_rfl)
  have h8 := @run_callFunc_extern Tryz.prog 120 _ (ReflectliteValue.method (ReflectliteValue.valueError "reflectlite.Value.IsNil" 0) ReflectliteValue.isNil) Tryz.func120 (by kernel_rfl) (by kernel_rfl) (by kernel_rfl) (by kernel_rfl)
  have h27 := @run_callFunc_extern Tryz.prog 524 _ (ReflectliteType.abiMethod fun t => do pure (.int .u8 (← Rtype.kind t))) Tryz.func524 (by kernel_rfl) (by kernel_rfl) (by kernel_rfl) (by kernel_rfl)
  have h37 := @run_callFunc_extern Tryz.prog 542 _ (ReflectliteType.method ReflectliteType.elem) Tryz.func542 (by kernel_rfl) (by kernel_rfl) (by kernel_rfl) (by kernel_rfl)
  have h38 := @run_callFunc_extern Tryz.prog 543 _ (ReflectliteType.relation "Implements" ReflectliteType.implements_) Tryz.func543 (by kernel_rfl) (by kernel_rfl) (by kernel_rfl) (by kernel_rfl)
  have h10 := @run_callFunc_extern Tryz.prog 190 _ ReflectliteType.typeOf Tryz.func190 (by kernel_rfl) (by kernel_rfl) (by kernel_rfl) (by kernel_rfl)
  have h35 := @run_callFunc_extern Tryz.prog 540 _ (ReflectliteType.relation "AssignableTo" ReflectliteType.assignableTo) Tryz.func540 (by kernel_rfl) (by kernel_rfl) (by kernel_rfl) (by kernel_rfl)
  have h11 := @run_callFunc_extern Tryz.prog 191 _ (ReflectliteValue.method (ReflectliteValue.valueError "reflectlite.Value.Elem" 0) ReflectliteValue.elem) Tryz.func191 (by kernel_rfl) (by kernel_rfl) (by kernel_rfl) (by kernel_rfl)
  have h12 := @run_callFunc_extern Tryz.prog 192 _ ReflectliteValue.set Tryz.func192 (by kernel_rfl) (by kernel_rfl) (by kernel_rfl) (by kernel_rfl)
  have tO := aw_typeOf166
  have mA := aw_methodAssignableTo
  have a25 := aw_assignable166
  have v25 := aw_valueOf166 x y
  have f6 := aw_valueOf171
  have f7 := aw_type171
  have mK := aw_methodKind
  have mE := aw_methodElem
  have mI := aw_methodImplements
  have k27 := aw_kind171
  have k25 := aw_kind166
  have e27 := aw_elem171
  have i25 := aw_implements166
  have n8 := aw_isNil171 ⟨w.heap.size, 0, none⟩ t ((w.alloc (.cells #[.pointer (some t)] 171)).alloc (.cells #[.pointer (some ⟨10, 171, none⟩), .pointer (some ⟨w.heap.size, 0, none⟩), .int .u64 150] 262)) (by simp)
  have hlt : 0 < w.heap.size := by
    rcases Nat.eq_zero_or_pos w.heap.size with h0 | h
    · simp [World.cell?, h0] at hg
    · exact h
  have hg2 : ((w.alloc (.cells #[.pointer (some t)] 171)).alloc (.cells #[.pointer (some ⟨10, 171, none⟩), .pointer (some ⟨w.heap.size, 0, none⟩), .int .u64 150] 262)).cell? ⟨0, 0, none⟩ = some (.iface 329 (.agg #[.pointer (some ⟨10, 169, none⟩)])) := by
    rw [World.cell?_alloc_lt _ _ ⟨0, 0, none⟩ (by simp), World.cell?_alloc_lt _ _ ⟨0, 0, none⟩ hlt]; exact hg
  have el := aw_elemV171 ⟨w.heap.size, 0, none⟩ t (((w.alloc (.cells #[.pointer (some t)] 171)).alloc (.cells #[.pointer (some ⟨10, 171, none⟩), .pointer (some ⟨w.heap.size, 0, none⟩), .int .u64 150] 262)).alloc (.cells #[.pointer (some ⟨10, 171, none⟩), .pointer (some ⟨w.heap.size, 0, none⟩), .int .u64 150] 262)) (by rw [World.cell?_alloc_lt _ _ ⟨w.heap.size, 0, none⟩ (by simp; omega)]; simp)
  have st := aw_set166 t ⟨w.heap.size + 1 + 1 + 1, 0, none⟩ (.agg #[x, y]) (asW w t x y) W' hl hs
  unfold asW at st
  go_enter Tryz.func67, Tryz.ntmps67
  go_wp2
  refine wp_loop_rounds 1 ?_
  rw [rounds_succ]
  go_wp2
  go_ret
  exact ⟨rfl, rfl⟩
end Go.Proofs.YthidihigidchgaaGreatDoor.Own
