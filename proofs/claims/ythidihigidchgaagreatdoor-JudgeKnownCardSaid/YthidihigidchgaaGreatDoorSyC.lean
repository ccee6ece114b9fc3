/- The runner's operations are sound (first part): for every program whose tables are right. -/
import Derived.Test.YthidihigidchgaaGreatDoorSyB
import Derived.Laws.BytesString
set_option linter.unusedVariables false
set_option linter.unusedSimpArgs false

namespace Go.Proofs.YthidihigidchgaaGreatDoor.Sy

/-- what an operation's answer is -/
def Res (P : Program) (η : Env) (x : AN) (r : Result Next) (w : World) : Prop := match x with
  | .val v => ∃ y, v.γ η = some y ∧ r = .ok (.value y) w
  | .skip => r = .ok .skip w
  | .enter f args => ∃ ys, γs η args = some ys ∧ r = .ok (.enter f ys.toArray) w
  | .dfr d => ∃ y, defγ η d = some y ∧ r = .ok (.defer y) w
  | .rcv => r = .ok .recover w
  | .round l args => ∃ p ys, η.ρ l = some p ∧ γs η args = some ys ∧ r = (Instr.yield p.1 ys.toArray).run P w
  | .pnc v => ∃ y, v.γ η = some y ∧ r = .halt (.panic y) w
  | .either it => ∃ w2 y, r = .ok (.value y) w2 ∧ ∀ H0 k, Mem η H0 w → eitherK H0 it k = true → ∃ v1 H1 v2 H2, k v1 H1 v2 H2 = true ∧ ((v1.γ η = some y ∧ ∀ N, Evo η H0 N w η H1 N w2) ∨ (v2.γ η = some y ∧ ∀ N, Evo η H0 N w η H2 N w2))
structure Runs (P : Program) (T : Tr AV) (H : AH) (N : Nat) (m : Array Value → Sem Next) (x : AN) (H' : AH) (N' : Nat) : Prop where
  nn : N ≤ N'
  run : ∀ η w nt tmps, Mem η H w → Fresh η N N' → TRel η T nt tmps → ∃ η' w', Evo η H N w η' H' N' w' ∧ Res P η' x ((m tmps).run P w) w'
/-- a value, the memory as it was -/
def Vals (P : Program) (T : Tr AV) (H : AH) (s : Array Value → Sem Value) (v : AV) : Prop :=
  ∀ η w nt tmps, Mem η H w → TRel η T nt tmps → ∃ y, v.γ η = some y ∧ (s tmps).run P w = .ok y w
theorem Vals.runs {P : Program} {T : Tr AV} {H : AH} {N : Nat} {s : Array Value → Sem Value} {v : AV} (h : Vals P T H s v) : Runs P T H N (fun tmps => do pure (.value (← s tmps))) (.val v) H N :=
  ⟨Nat.le_refl _, fun η w nt tmps hm _ hT => by
    obtain ⟨y, hy, hr⟩ := h η w nt tmps hm hT
    exact ⟨η, w, .refl hm, y, hy, by simp [hr]⟩⟩
/-- what an operation is said to come to -/
def Goes (P : Program) (T : Tr AV) (H : AH) (N : Nat) (m : Array Value → Sem Next) (c : Kop) : Prop := ∃ x H' N', c x H' N' = true ∧ Runs P T H N m x H' N'
theorem Goes.val {P : Program} {T : Tr AV} {H : AH} {N : Nat} {s : Array Value → Sem Value} {v : AV} {c : Kop} (hc : c (.val v) H N = true) (h : Vals P T H s v) :
    Goes P T H N (fun tmps => do pure (.value (← s tmps))) c := ⟨_, _, _, hc, h.runs⟩
/-- a value in memory that has become another one -/
def ValsE (P : Program) (T : Tr AV) (H : AH) (N : Nat) (s : Array Value → Sem Value) (v : AV) (H' : AH) (N' : Nat) : Prop :=
  N ≤ N' ∧ ∀ η w nt tmps, Mem η H w → Fresh η N N' → TRel η T nt tmps → ∃ η' w' y, Evo η H N w η' H' N' w' ∧ v.γ η' = some y ∧ (s tmps).run P w = .ok y w'
theorem Goes.valE {P : Program} {T : Tr AV} {H H' : AH} {N N' : Nat} {s : Array Value → Sem Value} {v : AV} {c : Kop} (hc : c (.val v) H' N' = true) (h : ValsE P T H N s v H' N') :
    Goes P T H N (fun tmps => do pure (.value (← s tmps))) c := ⟨_, _, _, hc, h.1, fun η w nt tmps hm hf hT => by
      obtain ⟨η', w', y, he, hy, hr⟩ := h.2 η w nt tmps hm hf hT
      exact ⟨η', w', he, y, hy, by simp [hr]⟩⟩
def SkipE (P : Program) (T : Tr AV) (H : AH) (N : Nat) (s : Array Value → Sem Unit) (H' : AH) (N' : Nat) : Prop :=
  N ≤ N' ∧ ∀ η w nt tmps, Mem η H w → Fresh η N N' → TRel η T nt tmps → ∃ η' w', Evo η H N w η' H' N' w' ∧ (s tmps).run P w = .ok () w'
theorem Goes.skip {P : Program} {T : Tr AV} {H H' : AH} {N N' : Nat} {s : Array Value → Sem Unit} {c : Kop} (hc : c .skip H' N' = true) (h : SkipE P T H N s H' N') :
    Goes P T H N (fun tmps => do s tmps; pure .skip) c := ⟨_, _, _, hc, h.1, fun η w nt tmps hm hf hT => by
      obtain ⟨η', w', he, hr⟩ := h.2 η w nt tmps hm hf hT
      exact ⟨η', w', he, by simp [Res, hr]⟩⟩

section
variable {C : Cx} {P : Program} {T : Tr AV} {H : AH} {N : Nat} {ty : TypeId} {c : Kop} {dst : Option Tmp} {pos : String} {after : Array Edge} {guard : Option (Nat × Bool)}

theorem opMove_spec {x : Operand} (h : opMove x C T H N ty c = true) : Goes P T H N (fun tmps => execOp (evt tmps) ⟨dst, .move x, ty, pos, after, guard⟩) c := by
  obtain ⟨v, hv, hx⟩ := ev_spec (show ev x T (giveV H N c) = true from h)
  exact ⟨.val v, H, N, hv, Nat.le_refl _, fun η w nt tmps hm _ hT => ⟨η, w, .refl hm, evt tmps x, hx η nt tmps hT, rfl⟩⟩
theorem opAssign_spec {x : Operand} (h : opMove x C T H N ty c = true) : Goes P T H N (fun tmps => execOp (evt tmps) ⟨dst, .assign x, ty, pos, after, guard⟩) c := by
  obtain ⟨v, hv, hx⟩ := ev_spec (show ev x T (giveV H N c) = true from h)
  exact ⟨.val v, H, N, hv, Nat.le_refl _, fun η w nt tmps hm _ hT => ⟨η, w, .refl hm, evt tmps x, hx η nt tmps hT, rfl⟩⟩
theorem opPick_spec {x a b : Operand} (h : opPick x a b C T H N ty c = true) : Goes P T H N (fun tmps => execOp (evt tmps) ⟨dst, .pick x a b, ty, pos, after, guard⟩) c := by
  obtain ⟨v, hv, hx⟩ := ev_spec (show ev x T (pickA a b T H N c) = true from h)
  unfold pickA at hv
  split at hv
  · obtain ⟨u, hu, ha⟩ := ev_spec hv
    refine ⟨.val u, H, N, hu, Nat.le_refl _, fun η w nt tmps hm _ hT => ⟨η, w, .refl hm, evt tmps a, ha η nt tmps hT, ?_⟩⟩
    have := γ_bool (hx η nt tmps hT)
    simp [execOp, this, asBool]
  · obtain ⟨u, hu, ha⟩ := ev_spec hv
    refine ⟨.val u, H, N, hu, Nat.le_refl _, fun η w nt tmps hm _ hT => ⟨η, w, .refl hm, evt tmps b, ha η nt tmps hT, ?_⟩⟩
    have := γ_bool (hx η nt tmps hT)
    simp [execOp, this, asBool]
  · cases hv

/-! New blocks of cells. -/
theorem newCells_spec {vs : List AV} {ext : Nat} {plain : Bool} {k : AH → Nat → Bool} (h : newCells H N vs ext plain k = true) : ∃ H', k H' (N + 1) = true ∧ (∀ q, Tr.look H' q = if q = N then some (.cells vs ext plain) else Tr.look H q) ∧ ∀ x ∈ vs, x.one = true := by
  unfold newCells at h
  cases ho : allOne vs with
  | false => rw [ho] at h; cases h
  | true =>
    rw [ho] at h
    obtain ⟨H', hk, hl⟩ := Tr.set_spec (show Tr.set H N (some (.cells vs ext plain)) (fun H => fzNat (Nat.succ N) fun N => k H N) = true from h)
    rw [fzNat_eq] at hk
    exact ⟨H', hk, hl, allOne_spec vs ho⟩
theorem holds_new {η : Env} {w : World} {vs : List AV} {ext : Nat} {plain : Bool} {i b : Nat} {cs : Array Value} {el : TypeId} {xs : List Value} {fr : Nat × Nat} (hb : w.heap[b]? = some (.cells cs el fr)) (hx : γs η vs = some xs)
    (hc : ∀ (j : Nat) (y : Value), xs[j]? = some y → cs[j]? = some y) (ho : ∀ x ∈ vs, x.one = true) (hfr : plain = true → fr = (0, 0)) (hfr' : ∀ j, j < cs.size → ¬ (fr.1 ≤ j ∧ j < fr.2)) (hext : ext ≠ 0 → ∃ c, η.κ i = some c ∧ c * ext ≤ cs.size) :
    Holds η w i (b, 0) (.cells vs ext plain) := by
  refine ⟨cs, el, fr, hb, hfr, hfr', fun j v hv => ?_, fun he => ?_⟩
  · obtain ⟨y, hy, hg⟩ := γs_get hx hv
    exact ⟨ho v (List.mem_of_getElem? hv), y, hg, by simpa using hc j y hy⟩
  · obtain ⟨c, h1, h2⟩ := hext he
    exact ⟨c, h1, by simpa using h2⟩
/-- a new row of just these cells -/
theorem alloc_cells {η : Env} {w w' : World} {H' : AH} (hm : Mem η H w) (hf : Fresh η N (N + 1)) {vs : List AV} {xs : List Value} {el : TypeId} (hx : γs η vs = some xs) (ho : ∀ x ∈ vs, x.one = true)
    (hH : ∀ q, Tr.look H' q = if q = N then some (.cells vs 0 true) else Tr.look H q) (hw : w'.heap = w.heap.push (.cells xs.toArray el)) (hos : w'.os = w.os ∧ w'.tape = w.tape := by exact ⟨rfl, rfl⟩) (hout : w'.output = w.output := by rfl) : Evo η H N w (η.bind N (w.heap.size, 0) none) H' (N + 1) w' :=
  Evo.alloc hm hf none _ _ hH hw (holds_new (cs := xs.toArray) (el := el) (fr := (0, 0)) (by rw [hw]; simp) (γs_mono (Env.bind_le (hf N (Nat.le_refl _) (Nat.lt_succ_self _))) _ _ hx) (fun j y hy => by simpa using hy) ho (fun _ => rfl) (fun j _ => by simp) (fun h => absurd rfl h)) hos hout rfl
theorem newOf_spec {v : AV} (h : newOf H N c v = true) : ∃ H', c (.val (.ptr N 0)) H' (N + 1) = true ∧
    ∀ η w y el, Mem η H w → Fresh η N (N + 1) → v.γ η = some y → ∃ η', Evo η H N w η' H' (N + 1) { w with heap := w.heap.push (.cells y.cells el) } ∧ (AV.ptr N 0).γ η' = some (.pointer (some ⟨w.heap.size, 0, none⟩)) := by
  obtain ⟨xs, hxs, hc⟩ := cellsOf_spec (show cellsOf v (newPtr H N c) = true from h)
  obtain ⟨H', hk, hl, ho⟩ := newCells_spec (show newCells H N xs 0 true (c (.val (.ptr N 0))) = true from hxs)
  refine ⟨H', hk, fun η w y el hm hf hy => ?_⟩
  obtain ⟨ys, hys, hyc⟩ := hc η y hy
  exact ⟨_, alloc_cells hm hf hys ho hl (by rw [hyc]), by simp [AV.γ, Env.bind_ρ, addr]⟩
theorem opBox_spec {e : TypeId} {x : Operand} (h : opBox e x C T H N ty c = true) : Goes P T H N (fun tmps => execOp (evt tmps) ⟨dst, .box e x, ty, pos, after, guard⟩) c := by
  obtain ⟨v, hv, hx⟩ := ev_spec (show ev x T (newOf H N c) = true from h)
  obtain ⟨H', hk, hn⟩ := newOf_spec hv
  refine Goes.valE (s := fun tmps => Instr.box e (evt tmps x)) hk ⟨Nat.le_succ _, fun η w nt tmps hm hf hT => ?_⟩
  obtain ⟨η', he, hy⟩ := hn η w (evt tmps x) e hm hf (hx η nt tmps hT)
  exact ⟨η', _, _, he, hy, by simp [Instr.box, newVar, newRow]⟩

variable (hC : C.OK' P)
include hC
theorem opAlloc_spec {e : TypeId} (h : opAlloc e C T H N ty c = true) : Goes P T H N (fun tmps => execOp (evt tmps) ⟨dst, .alloc e, ty, pos, after, guard⟩) c := by
  obtain ⟨a, v, ha, hv, hz⟩ := zero_spec hC.toOK (show C.zero e (newOf H N c) = true from h)
  obtain ⟨H', hk, hn⟩ := newOf_spec ha
  refine Goes.valE (s := fun _ => Instr.alloc e true (.tuple #[])) hk ⟨Nat.le_succ _, fun η w nt tmps hm hf hT => ?_⟩
  obtain ⟨η', he, hy⟩ := hn η w v e hm hf (hv η)
  exact ⟨η', _, _, he, hy, by simp [Instr.alloc, run_zeroValue w hz, newVar, newRow]⟩

theorem ldA_spec {t : TypeId} {a : AV} {k : Kv} (h : ldA C H t a k = true) : ∃ v, k v = true ∧ ∀ η w a', Mem η H w → a.γ η = some a' → ∃ y, v.γ η = some y ∧ (Instr.loadAt t a').run P w = .ok y w ∧ ∃ ad, a' = .pointer (some ad) ∧ (loadVar t ad).run P w = .ok y w := by
  unfold ldA at h
  split at h
  · rename_i i o
    obtain ⟨ob, hob, hk⟩ := Tr.get_spec (show Tr.get H i (AObj.onCells fun vs _ _ => partA C t vs o k) = true from h)
    unfold AObj.onCells at hk
    split at hk
    · rename_i vs ext pl
      obtain ⟨v, hv, hl⟩ := loadVar_spec hC.toOK hk
      refine ⟨v, hv, fun η w a' hm ha => ?_⟩
      obtain ⟨p, hp, rfl⟩ := γ_ptr ha
      obtain ⟨q, hq, hh⟩ := hm.objs i _ hob
      rw [hp] at hq; cases hq
      obtain ⟨y, hy, hr⟩ := hl η w p hh.known
      exact ⟨y, hy, by simp [Instr.loadAt, Instr.sureAddr, hr], _, rfl, hr⟩
    · cases hk
  · cases h
theorem opLoad_spec {t : TypeId} {a : Operand} (h : opLoad t a C T H N ty c = true) : Goes P T H N (fun tmps => execOp (evt tmps) ⟨dst, .load t a, ty, pos, after, guard⟩) c := by
  obtain ⟨u, hu, ha⟩ := ev_spec (show ev a T (fun a => ldA C H t a (giveV H N c)) = true from h)
  obtain ⟨v, hv, hl⟩ := ldA_spec hC hu
  refine Goes.val (s := fun tmps => Instr.loadAt t (evt tmps a)) hv fun η w nt tmps hm hT => ?_
  obtain ⟨y, hy, hr, -⟩ := hl η w _ hm (ha η nt tmps hT)
  exact ⟨y, hy, hr⟩
end

/-! Stores. -/
def layArr (cs : Array Value) : Nat → List Value → Array Value
  | _, [] => cs
  | o, v :: r => layArr (cs.setIfInBounds o v) (o + 1) r
theorem layArr_size : ∀ (l : List Value) (cs : Array Value) (o : Nat), (layArr cs o l).size = cs.size
  | [], _, _ => rfl
  | v :: r, cs, o => by simp [layArr, layArr_size r]
theorem layArr_get : ∀ (l : List Value) (cs : Array Value) (o : Nat), o + l.length ≤ cs.size → ∀ j, (layArr cs o l)[j]? = if o ≤ j ∧ j < o + l.length then l[j - o]? else cs[j]?
  | [], cs, o, _, j => by simp [layArr]; omega
  | v :: r, cs, o, h, j => by
    simp only [layArr]
    rw [layArr_get r _ _ (by simp at h ⊢; omega)]
    by_cases hj : o = j
    · subst hj
      rw [if_neg (by omega), if_pos (by simp)]
      simp at h
      simp [Array.getElem?_setIfInBounds]; omega
    · by_cases hc : o + 1 ≤ j ∧ j < o + 1 + r.length
      · rw [if_pos hc, if_pos (by simp; omega)]
        obtain ⟨z, hz⟩ : ∃ z, j - o = z + 1 := ⟨j - o - 1, by omega⟩
        have : j - (o + 1) = z := by omega
        rw [hz, this]; rfl
      · rw [if_neg hc, if_neg (by simp; omega), Array.getElem?_setIfInBounds_ne hj]
theorem getE_lt {A : Array Obj} {g : Nat} {x : Obj} (h : A[g]? = some x) : g < A.size := by
  rcases Nat.lt_or_ge g A.size with h' | h'
  · exact h'
  · rw [Array.getElem?_eq_none h'] at h; cases h
theorem setIB_same {A : Array Obj} {g : Nat} {x : Obj} (h : A[g]? = some x) (o : Obj) : (A.setIfInBounds g o)[g]? = some o := by
  simp [getE_lt h]
theorem setIB_self {A : Array Obj} {g : Nat} {x : Obj} (h : A[g]? = some x) : A.setIfInBounds g x = A := by
  apply Array.ext_getElem?
  intro j
  by_cases e : g = j
  · subst e; rw [setIB_same h, h]
  · rw [Array.getElem?_setIfInBounds_ne e]
theorem setIB_twice (A : Array Obj) (g : Nat) (x y : Obj) : (A.setIfInBounds g x).setIfInBounds g y = A.setIfInBounds g y := by
  apply Array.ext_getElem?
  intro j
  by_cases e : g = j
  · subst e
    simp only [Array.getElem?_setIfInBounds, Array.size_setIfInBounds, if_true]
  · rw [Array.getElem?_setIfInBounds_ne e, Array.getElem?_setIfInBounds_ne e, Array.getElem?_setIfInBounds_ne e]
theorem setCell_eq {w : World} {g o : Nat} {cs : Array Value} {el : TypeId} {fr : Nat × Nat} (h : w.heap[g]? = some (.cells cs el fr)) (v : Value) :
    w.setCell ⟨g, o, none⟩ v = { w with heap := w.heap.setIfInBounds g (.cells (cs.setIfInBounds o v) el fr) } := by
  unfold World.setCell
  congr 1
  apply Array.ext_getElem?
  intro j
  by_cases e : g = j
  · subst e; rw [setIB_same h, Array.getElem?_modify, if_pos rfl, h]; simp
  · rw [Array.getElem?_setIfInBounds_ne e, Array.getElem?_modify, if_neg e]
theorem run_storeCells {P : Program} (g o : Nat) (el : TypeId) (fr : Nat × Nat) : ∀ (l : List Value) (i : Nat) (cs : Array Value) (w : World), w.heap[g]? = some (.cells cs el fr) → (∀ j, j < cs.size → ¬ (fr.1 ≤ j ∧ j < fr.2)) →
    o + i + l.length ≤ cs.size → (∀ v ∈ l, (∀ x, v ≠ .agg x) ∧ ∀ x, v ≠ .tuple x) →
    (storeCells ⟨g, o, none⟩ l i).run P w = .ok () { w with heap := w.heap.setIfInBounds g (.cells (layArr cs (o + i) l) el fr) }
  | [], i, cs, w, hg, _, _, _ => by simp [storeCells, layArr, setIB_self hg]
  | v :: r, i, cs, w, hg, hf, hl, ho => by
    have hi : o + i < cs.size := by simp at hl; omega
    have hadd : (⟨g, o, none⟩ : Addr).add i = ⟨g, o + i, none⟩ := by unfold Addr.add; split <;> simp_all
    have hcell : w.cell? ⟨g, o + i, none⟩ = some cs[o + i] := by simp [World.cell?, hg, hi]
    have hfz : w.frozen? ⟨g, o + i, none⟩ = false := by
      have := hf (o + i) hi
      simp only [World.frozen?, hg]
      rw [Bool.and_eq_false_iff]; simp only [decide_eq_false_iff_not]
      omega
    have hone : v.oneCell' = true := by
      have := ho v (by simp)
      cases v <;> first | rfl | exact absurd rfl (this.1 _) | exact absurd rfl (this.2 _)
    have ih := run_storeCells (P := P) g o el fr r (i + 1) (cs.setIfInBounds (o + i) v) { w with heap := w.heap.setIfInBounds g (.cells (cs.setIfInBounds (o + i) v) el fr) } (setIB_same hg _) (by simpa using hf)
      (by simp at hl ⊢; omega) (fun x hx => ho x (by simp [hx]))
    simp only [storeCells, Sem.run_bind, hadd, run_store P w _ v _ hone, hcell, hfz, Bool.false_eq_true, if_false, Result.andThen_ok, setCell_eq hg, ih, layArr, setIB_twice, Nat.add_assoc]

/-- a part of a block is written -/
theorem write_cells {P : Program} {η : Env} {H H' : AH} {N : Nat} {w : World} (hm : Mem η H w) {i o : Nat} {p : Nat × Nat} {vs xs vs' : List AV} {ys : List Value} {ext : Nat} {pl : Bool} (hi : Tr.look H i = some (.cells vs ext pl)) (hp : η.ρ i = some p)
    (hl : Laid o vs xs vs') (ho : ∀ x ∈ xs, x.one = true) (hy : γs η xs = some ys) (hH : ∀ q, Tr.look H' q = if q = i then some (.cells vs' ext pl) else Tr.look H q) :
    ∃ w', (storeCells (addr p o) ys).run P w = .ok () w' ∧ Evo η H N w η H' N w' := by
  obtain ⟨q, hq, cs, el, fr, h1, h2, h3, h4, h5⟩ := hm.objs i _ hi
  rw [hp] at hq; cases hq
  obtain ⟨hlen, hfit, hget⟩ := hl
  have hys := γs_length hy
  have hsz : xs = [] ∨ p.2 + o + ys.length ≤ cs.size := by
    by_cases hx : xs = []
    · exact .inl hx
    · right
      have : 0 < xs.length := List.length_pos_iff.2 hx
      obtain ⟨v, hv⟩ : ∃ v, vs[o + xs.length - 1]? = some v := ⟨vs[o + xs.length - 1]'(by omega), by rw [List.getElem?_eq_getElem]⟩
      obtain ⟨_, x, _, hc⟩ := h4 _ v hv
      have : p.2 + (o + xs.length - 1) < cs.size := by
        rcases Nat.lt_or_ge (p.2 + (o + xs.length - 1)) cs.size with h | h
        · exact h
        · rw [Array.getElem?_eq_none h] at hc; cases hc
      omega
  rcases hsz with hx | hsz
  · subst hx
    simp [γs] at hy
    subst hy
    have hvs : vs' = vs := by
      apply List.ext_getElem?
      intro j; rw [hget]; simp; omega
    subst hvs
    refine ⟨w, by simp [storeCells], ?_⟩
    exact Evo.write hm hi hp (.cells cs el fr) hH (setIB_self h1).symm ⟨cs, el, fr, h1, h2, h3, h4, h5⟩ (fun y e => by rw [h1] at e; cases e; rfl)
  · have hone : ∀ y ∈ ys, (∀ x, y ≠ .agg x) ∧ ∀ x, y ≠ .tuple x := by
      intro y hyy
      obtain ⟨j, hj⟩ := List.getElem?_of_mem hyy
      obtain ⟨v, hv⟩ : ∃ v, xs[j]? = some v := by
        have : j < ys.length := by
          rcases Nat.lt_or_ge j ys.length with h | h
          · exact h
          · rw [List.getElem?_eq_none h] at hj; cases hj
        exact ⟨xs[j]'(by omega), by rw [List.getElem?_eq_getElem]⟩
      obtain ⟨z, hz, hg⟩ := γs_get hy hv
      rw [hj] at hz; cases hz
      exact one_γ hg (ho v (List.mem_of_getElem? hv))
    have hrun := run_storeCells (P := P) p.1 (p.2 + o) el fr ys 0 cs w h1 h3 (by omega) hone
    refine ⟨_, hrun, ?_⟩
    refine Evo.write hm hi hp _ hH rfl ⟨layArr cs (p.2 + o) ys, el, fr, setIB_same h1 _, h2, by rw [layArr_size]; exact h3, fun j v hv => ?_, fun he => ?_⟩ (fun y e => by rw [h1] at e; cases e; rfl)
    · rw [hget] at hv
      rw [layArr_get _ _ _ (by omega)]
      split at hv
      · rename_i hj
        rw [if_pos (by omega)]
        obtain ⟨z, hz, hg⟩ := γs_get hy hv
        exact ⟨ho v (List.mem_of_getElem? hv), z, hg, by rw [← hz]; congr 1; omega⟩
      · rename_i hj
        rw [if_neg (by omega)]
        exact h4 j v hv
    · rw [layArr_size]; exact h5 he
section
variable {C : Cx} {P : Program} {T : Tr AV} {H : AH} {N : Nat} {ty : TypeId} {c : Kop} {dst : Option Tmp} {pos : String} {after : Array Edge} {guard : Option (Nat × Bool)} (hC : C.OK' P)
include hC
theorem opStore_spec {t : TypeId} {a x : Operand} (h : opStore t a x C T H N ty c = true) : Goes P T H N (fun tmps => execOp (evt tmps) ⟨dst, .store t a x, ty, pos, after, guard⟩) c := by
  obtain ⟨u, hu, ha⟩ := ev_spec (show ev a T (fun a => ev x T fun x => stA C H t a x fun H' => c .skip H' N) = true from h)
  obtain ⟨v, hv, hx⟩ := ev_spec hu
  unfold stA at hv
  split at hv
  · rename_i i o
    obtain ⟨ob, hob, hk⟩ := Tr.get_spec hv
    unfold AObj.onCells at hk
    split at hk
    · rename_i vs ext pl
      obtain ⟨xs, hxs, hcs⟩ := cellsOf_spec hk
      obtain ⟨n, hn, hsz⟩ := size_spec hC.toOK hxs
      rw [lenL_eq] at hn
      split at hn
      · rename_i hnm
        have hnm := Nat.eq_of_beq_eq_true hnm
        obtain ⟨vs', hvs', hlaid, hone⟩ := wrK_spec _ _ _ _ hn
        obtain ⟨H', hH', hlook⟩ := Tr.set_spec hvs'
        refine Goes.skip (s := fun tmps => Instr.storeAt t (evt tmps a) (evt tmps x)) hH' ⟨Nat.le_refl _, fun η w nt tmps hm hf hT => ?_⟩
        obtain ⟨p, hp, hpa⟩ := γ_ptr (ha η nt tmps hT)
        obtain ⟨ys, hys, hyc⟩ := hcs η _ (hx η nt tmps hT)
        obtain ⟨w', hr, he⟩ := write_cells (P := P) (N := N) hm hob hp hlaid hone hys hlook
        refine ⟨η, w', he, ?_⟩
        have hl : ys.length = n := by rw [γs_length hys]; omega
        simp only [Instr.storeAt, hpa, Instr.sureAddr, Sem.run_bind, Sem.run_pure, Result.andThen_ok, storeVar, run_sizeOf w hsz, hyc]
        simp [hl, hr]
      · cases hn
    · cases hk
  · cases hv
end
end Go.Proofs.YthidihigidchgaaGreatDoor.Sy

namespace Go.Proofs.YthidihigidchgaaGreatDoor.Sy
section
variable {C : Cx} {P : Program} {T : Tr AV} {H : AH} {N : Nat} {ty : TypeId} {c : Kop} {dst : Option Tmp} {pos : String} {after : Array Edge} {guard : Option (Nat × Bool)} (hC : C.OK' P)

theorem opNilCheck_spec {x : Operand} (h : opNilCheck x C T H N ty c = true) : Goes P T H N (fun tmps => execOp (evt tmps) ⟨dst, .nilCheck x, ty, pos, after, guard⟩) c := by
  obtain ⟨v, hv, hx⟩ := ev_spec (show ev x T (nilChk H N c) = true from h)
  unfold nilChk at hv
  split at hv
  · refine ⟨_, H, N, hv, Nat.le_refl _, fun η w nt tmps hm _ hT => ⟨η, w, .refl hm, _, hx η nt tmps hT, ?_⟩⟩
    obtain ⟨p, hp, e⟩ := γ_ptr (hx η nt tmps hT)
    simp [execOp, e]
  · refine ⟨_, H, N, hv, Nat.le_refl _, fun η w nt tmps hm _ hT => ⟨η, w, .refl hm, _, hx η nt tmps hT, ?_⟩⟩
    obtain ⟨_, a, b, _, _, e⟩ := γ_func (hx η nt tmps hT)
    simp [execOp, e]
  · refine ⟨_, H, N, hv, Nat.le_refl _, fun η w nt tmps hm _ hT => ⟨η, w, .refl hm, _, hx η nt tmps hT, ?_⟩⟩
    obtain ⟨p, hp, e⟩ := γ_iface (hx η nt tmps hT)
    simp [execOp, e]
  · cases hv
theorem unA_spec {op : UnOp} {x : AV} {k : Kv} (h : unA op x k = true) : ∃ v, k v = true ∧ ∀ η w x', x.γ η = some x' → ∃ y, v.γ η = some y ∧ (Op.unary op x').run P w = .ok y w := by
  unfold unA at h
  split at h
  · simp only [retI, fzInt_eq] at h
    refine ⟨_, h, fun η w x' hx => ⟨_, rfl, ?_⟩⟩
    rw [γ_int hx, wrapA_eq]
    simp only [Op.unary, Op.intArith, Sem.run_pure]; rfl
  · rename_i k0 n
    simp only [retI, fzInt_eq] at h
    refine ⟨_, h, fun η w x' hx => ⟨_, rfl, ?_⟩⟩
    rw [γ_int hx]
    have hlt := resid_lt k0 n
    rw [show unres k0 (((kMod k0).sub 1).sub (resid k0 n)) = k0.wrap ((kMod k0 - 1 - resid k0 n : Nat) : Int) from unres_eq k0 (kMod k0 - 1 - resid k0 n) (by omega)]
    simp only [Op.unary, Op.intBits, BitVec.toNat_xor, bv_nat]
    have hm : resid k0 (if k0.signed then -1 else k0.max) = kMod k0 - 1 := by cases k0 <;> decide
    rw [hm]
    have hx : (kMod k0 - 1) ^^^ resid k0 n = kMod k0 - 1 - resid k0 n := by
      rw [kModN_eq] at hlt ⊢
      have : 2 ^ k0.bits - 1 - resid k0 n = (~~~ (BitVec.ofNat k0.bits (resid k0 n))).toNat := by
        rw [BitVec.toNat_not, BitVec.toNat_ofNat, Nat.mod_eq_of_lt hlt]
      rw [this, ← BitVec.allOnes_xor, BitVec.toNat_xor, BitVec.toNat_allOnes, BitVec.toNat_ofNat, Nat.mod_eq_of_lt hlt]
    rw [hx]; rfl
  · simp only [retB, fzBool_eq] at h
    refine ⟨_, h, fun η w x' hx => ⟨_, rfl, ?_⟩⟩
    rw [γ_bool hx]; rfl
  · rw [fzNat_eq] at h
    refine ⟨_, h, fun η w x' hx => ⟨_, rfl, ?_⟩⟩
    simp only [AV.γ, Option.some.injEq] at hx
    subst hx; rfl
  · rw [fzNat_eq, fzNat_eq] at h
    refine ⟨_, h, fun η w x' hx => ⟨_, rfl, ?_⟩⟩
    simp only [AV.γ, Option.some.injEq] at hx
    subst hx; rfl
  · cases h
theorem opUn_spec {op : UnOp} {t : TypeId} {x : Operand} (h : opUn op t x C T H N ty c = true) : Goes P T H N (fun tmps => execOp (evt tmps) ⟨dst, .unOp op t x, ty, pos, after, guard⟩) c := by
  obtain ⟨u, hu, hx⟩ := ev_spec (show ev x T (fun a => unA op a (giveV H N c)) = true from h)
  obtain ⟨v, hv, ho⟩ := unA_spec (P := P) hu
  refine Goes.val (s := fun tmps => Op.unary op (evt tmps x)) hv fun η w nt tmps hm hT => ho η w _ (hx η nt tmps hT)
theorem mapA (f : Operand → Value) (a : Array Operand) : (a.toList.map f).toArray = a.map f := by apply Array.ext'; simp
theorem opFunc_spec {fn : Fn} {first cap : Array Operand} (h : opFunc fn first cap C T H N ty c = true) : Goes P T H N (fun tmps => execOp (evt tmps) ⟨dst, .makeFunc fn first cap, ty, pos, after, guard⟩) c := by
  have key : ∀ (hfn : ∀ l, fn ≠ .yield l), (evL first.toList T fun a => evL cap.toList T fun b => c (.val (.func fn a b)) H N) = true → Goes P T H N (fun tmps => execOp (evt tmps) ⟨dst, .makeFunc fn first cap, ty, pos, after, guard⟩) c := by
    intro hfn h
    obtain ⟨a, ha, hea⟩ := evL_spec _ h
    obtain ⟨b, hb, heb⟩ := evL_spec _ ha
    refine Goes.val (s := fun tmps => Instr.makeFunc fn (first.map (evt tmps)) (cap.map (evt tmps))) hb fun η w nt tmps hm hT => ⟨_, ?_, rfl⟩
    have h1 := hea η nt tmps hT
    have h2 := heb η nt tmps hT
    cases fn with
    | yield l => exact absurd rfl (hfn l)
    | _ => all_goals (simp only [AV.γ, h1, h2, mapA])
  unfold opFunc at h
  split at h
  · cases h
  · rename_i hfn
    exact key (fun l e => hfn l e) h
theorem opExtract_spec {t : Operand} {i : Nat} (h : opExtract t i C T H N ty c = true) : Goes P T H N (fun tmps => execOp (evt tmps) ⟨dst, .extract t i, ty, pos, after, guard⟩) c := by
  obtain ⟨u, hu, hx⟩ := ev_spec h
  split at hu
  · rename_i vs
    obtain ⟨v, hv, hk⟩ := rd1_spec _ _ _ hu
    refine Goes.val (s := fun tmps => Instr.extract (evt tmps t) i) hk fun η w nt tmps hm hT => ?_
    obtain ⟨l, hl, e⟩ := γ_tuple (hx η nt tmps hT)
    obtain ⟨y, hy, hg⟩ := γs_get hl hv
    exact ⟨y, hg, by simp [e, Instr.extract, hy]⟩
  · cases hu
/-- a new object that is no row of cells -/
theorem newObj_spec {o : AObj} {k : AH → Nat → Bool} (h : newObj H N o k = true) : ∃ H', k H' (N + 1) = true ∧ ∀ q, Tr.look H' q = if q = N then some o else Tr.look H q := by
  obtain ⟨H', hk, hl⟩ := Tr.set_spec (show Tr.set H N (some o) (fun H => fzNat (Nat.succ N) fun N => k H N) = true from h)
  rw [fzNat_eq] at hk
  exact ⟨H', hk, hl⟩
theorem newMap_spec (h : newMap H N c = true) : ∃ H', c (.val (.map N)) H' (N + 1) = true ∧
    ∀ η w, Mem η H w → Fresh η N (N + 1) → ∃ η', Evo η H N w η' H' (N + 1) { w with heap := w.heap.push (.map #[] 0) } ∧ (AV.map N).γ η' = some (.map (some w.heap.size)) := by
  obtain ⟨H', hk, hl⟩ := newObj_spec (show newObj H N (.map [] 0) (c (.val (.map N))) = true from h)
  exact ⟨H', hk, fun η w hm hf => ⟨_, Evo.alloc hm hf none _ _ hl rfl ⟨rfl, [], by simp [entsγ], by simp⟩, by simp [AV.γ, Env.bind_ρ]⟩⟩
include hC
theorem opBin_spec {op : BinOp} {t u : TypeId} {x y : Operand} (h : opBin op t x y u C T H N ty c = true) : Goes P T H N (fun tmps => execOp (evt tmps) ⟨dst, .binOp op t x y u, ty, pos, after, guard⟩) c := by
  obtain ⟨a, ha, hx⟩ := ev_spec (show ev x T (fun a => ev y T fun b => binA C H op t x y a b (giveV H N c)) = true from h)
  obtain ⟨b, hb, hy⟩ := ev_spec ha
  obtain ⟨v, hv, ho⟩ := binA_spec hC hb
  exact Goes.val (s := fun tmps => do eqGuard op t x y (evt tmps x) (evt tmps y); binOp op t (evt tmps x) (evt tmps y)) hv fun η w nt tmps hm hT => ho η w _ _ hm (hx η nt tmps hT) (hy η nt tmps hT)
theorem isIface_spec {t : TypeId} {k : Bool → Bool} (h : isIface C t k = true) : ∃ d, P.underlying t = some d ∧ k (match d with | .interface _ => true | _ => false) = true := by
  obtain ⟨d, hd, hu⟩ := under_spec hC.toOK h
  refine ⟨d, hu, ?_⟩
  cases d <;> exact hd
theorem opIface_spec {t : TypeId} {x : Operand} (h : opIface t x C T H N ty c = true) : Goes P T H N (fun tmps => execOp (evt tmps) ⟨dst, .makeInterface t x, ty, pos, after, guard⟩) c := by
  obtain ⟨a, ha, hx⟩ := ev_spec h
  obtain ⟨d, hu, hk⟩ := isIface_spec hC ha
  split at hk
  · cases hk
  · rename_i hd
    refine Goes.val (s := fun tmps => Instr.makeInterface t (evt tmps x)) hk fun η w nt tmps hm hT => ⟨_, by simp [AV.γ, hx η nt tmps hT]; rfl, ?_⟩
    cases d <;> first | (cases hd; done) | simp [Instr.makeInterface, run_under w hu]
theorem opMap_spec {t : TypeId} {r : Option Operand} (h : opMap t r C T H N ty c = true) : Goes P T H N (fun tmps => execOp (evt tmps) ⟨dst, .makeMap t r, ty, pos, after, guard⟩) c := by
  unfold opMap at h
  split at h
  · obtain ⟨H', hk, hn⟩ := newMap_spec h
    refine Goes.valE (s := fun tmps => Instr.makeMap t (Option.map (evt tmps) none)) hk ⟨Nat.le_succ _, fun η w nt tmps hm hf hT => ?_⟩
    obtain ⟨η', he, hy⟩ := hn η w hm hf
    exact ⟨η', _, _, he, hy, by simp [Instr.makeMap]⟩
  · rename_i x
    obtain ⟨u, hu, hx⟩ := ev_spec h
    split at hu
    · obtain ⟨d, hd, hund⟩ := under_spec hC.toOK hu
      split at hd
      · obtain ⟨H', hk, hn⟩ := newMap_spec hd
        refine Goes.valE (s := fun tmps => Instr.makeMap t (Option.map (evt tmps) (some x))) hk ⟨Nat.le_succ _, fun η w nt tmps hm hf hT => ?_⟩
        obtain ⟨η', he, hy⟩ := hn η w hm hf
        have e := γ_int (hx η nt tmps hT)
        exact ⟨η', _, _, he, hy, by simp [Instr.makeMap, run_under w hund, asInt, asIntOf, e]⟩
      · cases hd
    · cases hu
omit hC in
theorem fieldAt_spec {fs : Array Field} {i : Nat} {k : Field → Bool} (h : fieldAt? fs i k = true) : ∃ f, fs[i]? = some f ∧ k f = true := by
  have key : ∀ (i : Nat) (l : List Field), fieldNth l i k = true → ∃ f, l[i]? = some f ∧ k f = true := by
    intro i
    induction i with
    | zero =>
      intro l h
      cases l with
      | nil => cases h
      | cons f l => exact ⟨f, rfl, h⟩
    | succ i ih =>
      intro l h
      cases l with
      | nil => cases h
      | cons f l =>
        obtain ⟨g, hg, hk⟩ := ih l h
        exact ⟨g, by simpa using hg, hk⟩
  obtain ⟨f, hf, hk⟩ := key i fs.toList h
  exact ⟨f, by simpa using hf, hk⟩
theorem opFieldAddr_spec {s : TypeId} {x : Operand} {f : Nat} (h : opFieldAddr s x f C T H N ty c = true) : Goes P T H N (fun tmps => execOp (evt tmps) ⟨dst, .fieldAddr s x f, ty, pos, after, guard⟩) c := by
  obtain ⟨u, hu, hx⟩ := ev_spec (show ev x T (fieldAddrA C s f (giveV H N c)) = true from h)
  obtain ⟨d, hd, hund⟩ := under_spec hC.toOK hu
  split at hd
  · rename_i fs id o
    obtain ⟨fl, hfl, hk⟩ := fieldAt_spec hd
    obtain ⟨n, hn, hsz⟩ := size_spec hC.toOK hk
    cases n with
    | zero => cases hn
    | succ n =>
      have hn : fzNat (Nat.add o fl.offset) (fun o => giveV H N c (.ptr id o)) = true := hn
      rw [fzNat_eq] at hn
      refine Goes.val (s := fun tmps => Instr.fieldAt s (evt tmps x) f) hn fun η w nt tmps hm hT => ?_
      obtain ⟨p, hp, e⟩ := γ_ptr (hx η nt tmps hT)
      refine ⟨.pointer (some (addr p (o + fl.offset))), by simp [AV.γ, hp], ?_⟩
      simp [Instr.fieldAt, run_under w hund, hfl, e, Instr.sureAddr, fieldPlace, run_sizeOf w hsz, add_addr]
  · cases hd
theorem opField_spec {s : TypeId} {x : Operand} {f : Nat} (h : opField s x f C T H N ty c = true) : Goes P T H N (fun tmps => execOp (evt tmps) ⟨dst, .field s x f, ty, pos, after, guard⟩) c := by
  obtain ⟨u, hu, hx⟩ := ev_spec (show ev x T (fieldA C s f (giveV H N c)) = true from h)
  obtain ⟨d, hd, hund⟩ := under_spec hC.toOK hu
  split at hd
  · rename_i fs cs
    obtain ⟨fl, hfl, hk⟩ := fieldAt_spec hd
    obtain ⟨v, hv, hp⟩ := part_spec hC.toOK hk
    refine Goes.val (s := fun tmps => Instr.field s (evt tmps x) f) hv fun η w nt tmps hm hT => ?_
    obtain ⟨l, hl, e⟩ := γ_agg (hx η nt tmps hT)
    obtain ⟨y, hy, hr⟩ := hp η l hl
    exact ⟨y, hy, by simp [Instr.field, run_under w hund, hfl, e, asAgg, hr]⟩
  · cases hd
omit hC in
theorem add_mul_addr (p : Nat × Nat) (o i s : Nat) : (addr p o).add (i * s) = addr p (o + i * s) := add_addr p o _
theorem opIndexAddr_spec {t : TypeId} {x ix : Operand} (h : opIndexAddr t x ix C T H N ty c = true) : Goes P T H N (fun tmps => execOp (evt tmps) ⟨dst, .indexAddr t x ix, ty, pos, after, guard⟩) c := by
  obtain ⟨u, hu, hx⟩ := ev_spec (show ev x T (fun x => ev ix T fun ix => indexAddrA C t x ix (giveV H N c)) = true from h)
  obtain ⟨j, hj, hi⟩ := ev_spec hu
  obtain ⟨kk, i, hi2, hij⟩ := asNat_spec hj
  obtain ⟨d, hd, hund⟩ := under_spec hC.toOK hi2
  have eix : ∀ η nt tmps, TRel η T nt tmps → evt tmps ix = .int kk (i : Int) := fun η nt tmps hT => by
    have := hi η nt tmps hT
    rw [hij η] at this
    exact (Option.some.inj this).symm
  split at hd
  · rename_i n e id o
    split at hd
    · rename_i hlt
      have hlt : i < n := Nat.le_of_ble_eq_true hlt
      obtain ⟨s, hs, hsz⟩ := size_spec hC.toOK hd
      rw [fzNat_eq] at hs
      refine Goes.val (s := fun tmps => Instr.indexAt t (evt tmps x) (evt tmps ix)) hs fun η w nt tmps hm hT => ?_
      obtain ⟨p, hp, ex⟩ := γ_ptr (hx η nt tmps hT)
      refine ⟨.pointer (some (addr p (o + i * s))), by simp [AV.γ, hp], ?_⟩
      simp [Instr.indexAt, run_under w hund, ex, eix η nt tmps hT, asIntOf, Instr.sureAddr, run_sizeOf w hsz, add_addr]
      intro; omega
    · cases hd
  · rename_i e id o n cap
    split at hd
    · rename_i hlt
      have hlt : i < n := Nat.le_of_ble_eq_true hlt
      obtain ⟨s, hs, hsz⟩ := size_spec hC.toOK hd
      rw [fzNat_eq] at hs
      refine Goes.val (s := fun tmps => Instr.indexAt t (evt tmps x) (evt tmps ix)) hs fun η w nt tmps hm hT => ?_
      obtain ⟨p, hp, _, ex⟩ := γ_slice (hx η nt tmps hT)
      refine ⟨.pointer (some (addr p (o + i * s))), by simp [AV.γ, hp], ?_⟩
      simp [Instr.indexAt, run_under w hund, ex, eix η nt tmps hT, asIntOf, run_sizeOf w hsz, add_addr]
      intro; omega
    · cases hd
  · rename_i e id o n y m
    split at hd
    · rename_i hlt
      have hlt : i < n := Nat.le_of_ble_eq_true hlt
      obtain ⟨s, hs, hsz⟩ := size_spec hC.toOK hd
      rw [fzNat_eq] at hs
      refine Goes.val (s := fun tmps => Instr.indexAt t (evt tmps x) (evt tmps ix)) hs fun η w nt tmps hm hT => ?_
      obtain ⟨p, _, hp, _, _, ex⟩ := γ_slicex (hx η nt tmps hT)
      refine ⟨.pointer (some (addr p (o + i * s))), by simp [AV.γ, hp], ?_⟩
      simp [Instr.indexAt, run_under w hund, ex, eix η nt tmps hT, asIntOf, run_sizeOf w hsz, add_addr]
      intro; omega
    · cases hd
  · cases hd
omit hC in
theorem nthN_spec : ∀ (l : List Nat) (i : Nat) (k : Nat → Bool), nthN l i k = true → ∃ x, l[i]? = some x ∧ k x = true
  | [], _, _, h => by cases h
  | x :: l, 0, k, h => ⟨x, rfl, h⟩
  | x :: l, i + 1, k, h => by
    obtain ⟨y, hy, hk⟩ := nthN_spec l i k h
    exact ⟨y, by simpa using hy, hk⟩
theorem opIndex_spec {t : TypeId} {x ix : Operand} (h : opIndex t x ix C T H N ty c = true) : Goes P T H N (fun tmps => execOp (evt tmps) ⟨dst, .index t x ix, ty, pos, after, guard⟩) c := by
  obtain ⟨u, hu, hx⟩ := ev_spec (show ev x T (fun x => ev ix T fun ix => indexA C t x ix (giveV H N c)) = true from h)
  obtain ⟨j, hj, hi⟩ := ev_spec hu
  obtain ⟨kk, i, hi2, hij⟩ := asNat_spec hj
  obtain ⟨d, hd, hund⟩ := under_spec hC.toOK hi2
  have eix : ∀ η nt tmps, TRel η T nt tmps → evt tmps ix = .int kk (i : Int) := fun η nt tmps hT => by
    have := hi η nt tmps hT
    rw [hij η] at this
    exact (Option.some.inj this).symm
  split at hd
  · rename_i n e cs
    split at hd
    · rename_i hlt
      have hlt : i < n := Nat.le_of_ble_eq_true hlt
      obtain ⟨s, hs, hsz⟩ := size_spec hC.toOK hd
      rw [fzNat_eq] at hs
      obtain ⟨v, hv, hp⟩ := part_spec hC.toOK hs
      refine Goes.val (s := fun tmps => Instr.index t (evt tmps x) (evt tmps ix)) hv fun η w nt tmps hm hT => ?_
      obtain ⟨l, hl, ex⟩ := γ_agg (hx η nt tmps hT)
      obtain ⟨y, hy, hr⟩ := hp η l hl
      exact ⟨y, hy, by simp [Instr.index, run_under w hund, ex, eix η nt tmps hT, asIntOf, run_sizeOf w hsz]; rw [if_pos hlt]; exact hr w⟩
    · cases hd
  · rename_i s
    obtain ⟨b, hb, hk⟩ := nthN_spec _ _ _ hd
    split at hk
    · rename_i hle
      have hle := Nat.le_of_ble_eq_true hle
      refine Goes.val (s := fun tmps => Instr.index t (evt tmps x) (evt tmps ix)) hk fun η w nt tmps hm hT => ⟨_, rfl, ?_⟩
      have ex := str_γ (hx η nt tmps hT)
      have hg : (⟨(strB s).toArray⟩ : ByteArray)[i]? = some (UInt8.ofNat b) := by
        have hlt : i < s.length := by
          rcases Nat.lt_or_ge i s.length with h | h
          · exact h
          · rw [List.getElem?_eq_none h] at hb; cases hb
        rw [getElem?_pos _ _ (by simpa [ByteArray.size, strB] using hlt)]
        congr 1
        show ((strB s).toArray)[i]'_ = _
        have : s[i] = b := by rw [List.getElem?_eq_getElem hlt] at hb; exact Option.some.inj hb
        simp [strB, this]
      simp [Instr.index, run_under w hund, ex, eix η nt tmps hT, asIntOf, hg]
      omega
    · cases hk
  · cases hd
end
end Go.Proofs.YthidihigidchgaaGreatDoor.Sy

namespace Go.Proofs.YthidihigidchgaaGreatDoor.Sy

theorem run_places {P : Program} (w : World) : ∀ (l : List Field), (∀ f ∈ l, ∃ n, (P.info? f.type).map (·.size) = some n) →
    (l.mapM (fun f => (do pure (f.offset, ← sizeOf f.type) : Sem (Nat × Nat)))).run P w = .ok (l.map fun f => (f.offset, P.cellsOf f.type)) w
  | [], _ => by simp
  | f :: l, h => by
    obtain ⟨n, hn⟩ := h f (by simp)
    have ih := run_places w l fun g hg => h g (by simp [hg])
    have hc : P.cellsOf f.type = n := by simp [Program.cellsOf, hn]
    simp only [List.mapM_cons, Sem.run_bind, run_sizeOf w hn, Result.andThen_ok, Sem.run_pure, ih, List.map_cons, hc]
theorem foldl_lay : ∀ (l : List Value) (k off : Nat) (cs : Array Value), (l.zipIdx k).foldl (fun cs (x : Value × Nat) => cs.setIfInBounds (off + x.2) x.1) cs = layArr cs (off + k) l
  | [], _, _, _ => rfl
  | v :: l, k, off, cs => by
    simp only [List.zipIdx_cons, List.foldl_cons, layArr]
    rw [foldl_lay l (k + 1) off]
    rfl
theorem fill_cons {place : Nat → Option (Nat × Nat)} {xs zs ys : List Value} {i off size : Nat} {v : Value} {rest : List (Nat × Value)} (hp : place i = some (off, size)) (hv : v.cells = ys.toArray) (hs : ys.length = size) (hl : Laid off xs ys zs) :
    Instr.fill place xs.toArray ((i, v) :: rest) = Instr.fill place zs.toArray rest := by
  obtain ⟨h1, h2, h3⟩ := hl
  simp only [Instr.fill, hp]
  rw [if_neg (by rw [hv]; simp [hs]; omega)]
  congr 1
  rw [hv, ← Array.foldl_toList, Array.toList_zipIdx]
  have := foldl_lay ys 0 off xs.toArray
  simp only [Nat.add_zero] at this
  rw [show (ys.toArray.toList.zipIdx) = ys.zipIdx 0 from rfl]
  rw [this]
  apply Array.ext_getElem?
  intro j
  rw [layArr_get _ _ _ (by simp; omega)]
  simp [h3]

section
variable {C : Cx} {P : Program} (hC : C.OK' P)
include hC
theorem fillS_spec {fs : Array Field} : ∀ (ps : List (Nat × AV)) (cells : List AV) (k : List AV → Bool), fillS C fs cells ps k = true → ∃ l, k l = true ∧
    ∀ η xs ys, γs η cells = some xs → γs η (ps.map (·.2)) = some ys → ∃ zs, γs η l = some zs ∧ Instr.fill ((fs.toList.map fun f => (f.offset, P.cellsOf f.type)).toArray[·]?) xs.toArray ((ps.map (·.1)).zip ys) = some zs.toArray
  | [], cells, k, h => ⟨cells, h, fun η xs ys hx hy => ⟨xs, hx, by simp [Instr.fill]⟩⟩
  | (i, v) :: ps, cells, k, h => by
    simp only [fillS] at h
    obtain ⟨f, hf, hk⟩ := fieldAt_spec h
    obtain ⟨n, hn, hsz⟩ := size_spec hC.toOK hk
    obtain ⟨as, has, hcs⟩ := cellsOf_spec hn
    rw [lenL_eq] at has
    split at has
    · rename_i hnm
      have hnm := Nat.eq_of_beq_eq_true hnm
      obtain ⟨cells', hc', hlaid, hone⟩ := wrK_spec _ _ _ _ has
      obtain ⟨l, hl, hfin⟩ := fillS_spec ps cells' k hc'
      refine ⟨l, hl, fun η xs ys hx hy => ?_⟩
      rw [List.map_cons] at hy
      obtain ⟨y, s, hyv, hs, rfl⟩ := γs_cons.1 hy
      obtain ⟨bs, hbs, hbc⟩ := hcs η y hyv
      obtain ⟨zs, hzs, hlz⟩ := hlaid.γ hx hbs
      obtain ⟨rs, hrs, hfl⟩ := hfin η zs s hzs hs
      refine ⟨rs, hrs, ?_⟩
      rw [List.map_cons, List.zip_cons_cons, fill_cons (off := f.offset) (size := n) _ hbc (by rw [γs_length hbs]; omega) hlz]
      · exact hfl
      · have : P.cellsOf f.type = n := by simp [Program.cellsOf, hsz]
        have hff : fs.toList[i]? = some f := by simpa using hf
        simp [hf, this]
    · cases has
omit hC in
theorem fillN_spec {n : Nat} : ∀ (ps : List (Nat × AV)) (cells : List AV) (k : List AV → Bool), fillN n cells ps k = true → ∃ l, k l = true ∧ l.length = cells.length ∧ ((∀ x ∈ cells, x.one = true) → ∀ x ∈ l, x.one = true) ∧
    ∀ η xs ys, γs η cells = some xs → γs η (ps.map (·.2)) = some ys → ∃ zs, γs η l = some zs ∧ Instr.fill (fun i => some (i * n, n)) xs.toArray ((ps.map (·.1)).zip ys) = some zs.toArray
  | [], cells, k, h => ⟨cells, h, rfl, id, fun η xs ys hx hy => ⟨xs, hx, by simp [Instr.fill]⟩⟩
  | (i, v) :: ps, cells, k, h => by
    simp only [fillN] at h
    obtain ⟨as, has, hcs⟩ := cellsOf_spec h
    rw [lenL_eq] at has
    split at has
    · rename_i hnm
      have hnm := Nat.eq_of_beq_eq_true hnm
      obtain ⟨cells', hc', hlaid, hone⟩ := wrK_spec _ _ _ _ has
      obtain ⟨l, hl, hlen, hones, hfin⟩ := fillN_spec ps cells' k hc'
      refine ⟨l, hl, hlen.trans hlaid.1, fun ho => hones fun x hx => ?_, fun η xs ys hx hy => ?_⟩
      · obtain ⟨j, hj⟩ := List.getElem?_of_mem hx
        rw [hlaid.2.2] at hj
        split at hj
        · exact hone x (List.mem_of_getElem? hj)
        · exact ho x (List.mem_of_getElem? hj)
      rw [List.map_cons] at hy
      obtain ⟨y, s, hyv, hs, rfl⟩ := γs_cons.1 hy
      obtain ⟨bs, hbs, hbc⟩ := hcs η y hyv
      obtain ⟨zs, hzs, hlz⟩ := hlaid.γ hx hbs
      obtain ⟨rs, hrs, hfl⟩ := hfin η zs s hzs hs
      refine ⟨rs, hrs, ?_⟩
      rw [List.map_cons, List.zip_cons_cons, fill_cons (off := i * n) (size := n) rfl hbc (by rw [γs_length hbs]; omega) hlz]
      exact hfl
    · cases has

omit hC in
theorem parts_eq {ps : List (Nat × AV)} {l : List (Nat × Operand)} {tmps : Array Value} (h : ps.map (·.1) = l.map (·.1)) : (ps.map (·.1)).zip (l.map fun x => evt tmps x.2) = l.map fun x => (x.1, evt tmps x.2) := by
  rw [h]
  clear h
  induction l with
  | nil => rfl
  | cons x l ih => simp [ih]
theorem buildA_spec {t : TypeId} {ps : List (Nat × AV)} {k : Kv} (h : buildA C t ps k = true) : ∃ v, k v = true ∧ ∀ η w ys, γs η (ps.map (·.2)) = some ys → ∃ y, v.γ η = some y ∧ (Instr.build t ((ps.map (·.1)).zip ys).toArray).run P w = .ok y w := by
  obtain ⟨z, zv, hz, hzγ, hzero⟩ := zero_spec hC.toOK h
  split at hz
  · rename_i zs
    have hzv : ∀ η, ∃ xs, γs η zs = some xs ∧ zv = .agg xs.toArray := fun η => γ_agg (hzγ η)
    obtain ⟨ti, hti, hd⟩ := Tr.get_spec hz
    have hund := (hC.toOK.ty t ti hti).2.1
    dsimp only at hd
    split at hd
    · rename_i fs hfs
      rw [hfs] at hund
      obtain ⟨l, hl, hfin⟩ := fillS_spec hC _ _ _ hd
      refine ⟨_, hl, fun η w ys hy => ?_⟩
      obtain ⟨xs, hxs, rfl⟩ := hzv η
      obtain ⟨rs, hrs, hfl⟩ := hfin η xs ys hxs hy
      refine ⟨_, by simp [AV.γ, hrs]; rfl, ?_⟩
      have hpl : (fs.mapM fun f => (do pure (f.offset, ← sizeOf f.type) : Sem (Nat × Nat))).run P w = .ok (fs.toList.map fun f => (f.offset, P.cellsOf f.type)).toArray w := by
        rw [Array.mapM_eq_mapM_toList]
        simp only [Sem.run_map, run_places w fs.toList fun f hf => hC.fields t ti fs hti hfs f (by simpa using hf), Result.andThen_ok]
      simp only [Instr.build, Sem.run_bind, run_zeroValue w hzero, Result.andThen_ok, run_under w hund, hpl, Value.cells, hfl, Sem.run_pure]
    · rename_i n e hfs
      rw [hfs] at hund
      obtain ⟨m, hm, hsz⟩ := size_spec hC.toOK hd
      obtain ⟨l, hl, _, _, hfin⟩ := fillN_spec _ _ _ hm
      refine ⟨_, hl, fun η w ys hy => ?_⟩
      obtain ⟨xs, hxs, rfl⟩ := hzv η
      obtain ⟨rs, hrs, hfl⟩ := hfin η xs ys hxs hy
      refine ⟨_, by simp [AV.γ, hrs]; rfl, ?_⟩
      simp only [Instr.build, Sem.run_bind, run_zeroValue w hzero, Result.andThen_ok, run_under w hund, run_sizeOf w hsz, Value.cells, hfl, Sem.run_pure]
    · cases hd
  · cases hz
end
theorem times_get {α : Type} (zs : List α) : ∀ (n j : Nat), (List.replicate n zs).flatten[j]? = if j < n * zs.length then zs[j % zs.length]? else none
  | 0, j => by simp
  | n + 1, j => by
    rw [List.replicate_succ, List.flatten_cons, List.getElem?_append]
    split
    · rename_i h
      rw [if_pos (by rw [Nat.succ_mul]; omega), Nat.mod_eq_of_lt h]
    · rename_i h
      rw [times_get zs n]
      have hm : (n + 1) * zs.length = n * zs.length + zs.length := Nat.succ_mul _ _
      by_cases hz : zs.length = 0
      · rw [if_neg (by rw [hz]; simp), if_neg (by rw [hz]; simp)]
      · have : (j - zs.length) % zs.length = j % zs.length := by
          conv => rhs; rw [show j = (j - zs.length) + zs.length from by omega, Nat.add_mod_right]
        rw [this]
        by_cases hc : j - zs.length < n * zs.length
        · rw [if_pos hc, if_pos (by omega)]
        · rw [if_neg hc, if_neg (by omega)]
theorem range_times (zs : List Value) (n : Nat) : (Array.range (n * zs.length)).map (fun i => zs.toArray[i % zs.toArray.size]!) = ((List.replicate n zs).flatten).toArray := by
  apply Array.ext_getElem?
  intro j
  conv => rhs; rw [List.getElem?_toArray, times_get]
  by_cases h : j < n * zs.length
  · rw [if_pos h]
    have hz : 0 < zs.length := by
      rcases Nat.eq_zero_or_pos zs.length with e | e
      · rw [e] at h; simp at h
      · exact e
    have hm : j % zs.length < zs.length := Nat.mod_lt _ hz
    simp [h, hm]
  · rw [if_neg h]
    simp [h]
theorem γs_times {η : Env} {zs : List AV} {xs : List Value} (h : γs η zs = some xs) : ∀ n, γs η (List.replicate n zs).flatten = some (List.replicate n xs).flatten
  | 0 => by simp [γs]
  | n + 1 => by
    rw [List.replicate_succ, List.replicate_succ, List.flatten_cons, List.flatten_cons]
    exact γs_append h (γs_times h n)

section
variable {C : Cx} {P : Program} {T : Tr AV} {H : AH} {N : Nat} {ty : TypeId} {c : Kop} {dst : Option Tmp} {pos : String} {after : Array Edge} {guard : Option (Nat × Bool)} (hC : C.OK' P)
include hC
theorem opBuild_spec {t : TypeId} {ps : Array (Nat × Operand)} (h : opBuild t ps C T H N ty c = true) : Goes P T H N (fun tmps => execOp (evt tmps) ⟨dst, .build t ps, ty, pos, after, guard⟩) c := by
  obtain ⟨qs, hq, hfst, hsnd⟩ := evP_spec _ h
  obtain ⟨v, hv, hb⟩ := buildA_spec hC hq
  refine Goes.val (s := fun tmps => Instr.build t (ps.map fun (i, x) => (i, evt tmps x))) hv fun η w nt tmps hm hT => ?_
  obtain ⟨y, hy, hr⟩ := hb η w _ (hsnd η nt tmps hT)
  refine ⟨y, hy, ?_⟩
  rw [parts_eq hfst] at hr
  have hparts : (ps.map fun (x : Nat × Operand) => (x.1, evt tmps x.2)) = (ps.toList.map fun x => (x.1, evt tmps x.2)).toArray := by
    apply Array.ext'
    simp
  show (Instr.build t (ps.map fun (x : Nat × Operand) => (x.1, evt tmps x.2))).run P w = _
  rw [hparts]
  exact hr
/-- a new slice of just these cells -/
theorem opBuildSlice_spec {t : TypeId} {n : Nat} {ps : Array (Nat × Operand)} (h : opBuildSlice t n ps C T H N ty c = true) : Goes P T H N (fun tmps => execOp (evt tmps) ⟨dst, .buildSlice t n ps, ty, pos, after, guard⟩) c := by
  obtain ⟨qs, hq, hfst, hsnd⟩ := evP_spec _ h
  obtain ⟨d, hd, hund⟩ := under_spec hC.toOK hq
  split at hd
  · rename_i e
    obtain ⟨m, hm, hsz⟩ := size_spec hC.toOK hd
    split at hm
    · rename_i hle
      have hle : n * m ≤ 16777216 := Nat.le_of_ble_eq_true hle
      have hbig : ∀ z : Nat, z ≤ 16777216 → ¬ z > 2 ^ 24 := fun z hz => Nat.not_lt.2 hz
      obtain ⟨z, zv, hz, hzγ, hzero⟩ := zero_spec hC.toOK hm
      obtain ⟨zs, hzs, hcs⟩ := cellsOf_spec hz
      rw [lenL_eq] at hzs
      split at hzs
      · rename_i hmz
        have hmz := Nat.eq_of_beq_eq_true hmz
        rw [timesK_eq] at hzs
        obtain ⟨l, hl, hlen, hones, hfin⟩ := fillN_spec _ _ _ hzs
        obtain ⟨H', hk, hlook, ho⟩ := newCells_spec hl
        have hgo : ∀ s : Array Value → Sem Value, s = (fun tmps => Instr.buildSlice t n (ps.map fun (x : Nat × Operand) => (x.1, evt tmps x.2))) → ValsE P T H N s (.slice N 0 n n) H' (N + 1) → Goes P T H N (fun tmps => execOp (evt tmps) ⟨dst, .buildSlice t n ps, ty, pos, after, guard⟩) c := fun s hs hv => by
          subst hs
          exact Goes.valE hk hv
        refine hgo _ rfl ⟨Nat.le_succ _, fun η w nt tmps hmem hf hT => ?_⟩
        obtain ⟨xs, hxs, hxc⟩ := hcs η zv (hzγ η)
        have hxl : xs.length = m := by rw [γs_length hxs]; omega
        obtain ⟨rs, hrs, hfl⟩ := hfin η _ _ (γs_times hxs n) (hsnd η nt tmps hT)
        rw [parts_eq hfst] at hfl
        have hr1 : (Array.range (n * m)).map (fun i => xs.toArray[i % xs.toArray.size]!) = ((List.replicate n xs).flatten).toArray := by
          rw [← range_times, hxl]
        have hr0 : n * m = 0 → (Array.range (n * m)).map (fun i => (#[] : Array Value)[i % (#[] : Array Value).size]!) = ((List.replicate n xs).flatten).toArray := fun e0 => by
          rw [← hr1, e0]; simp
        have hparts : (ps.map fun (x : Nat × Operand) => (x.1, evt tmps x.2)).toList = ps.toList.map fun x => (x.1, evt tmps x.2) := by simp
        have hrun : (Instr.buildSlice t n (ps.map fun (x : Nat × Operand) => (x.1, evt tmps x.2))).run P w = .ok (.slice (some ⟨w.heap.size, 0, none⟩) n n) { w with heap := w.heap.push (.cells rs.toArray e) } := by
          simp only [Instr.buildSlice, Sem.run_bind, run_under w hund, Result.andThen_ok, run_sizeOf w hsz]
          rw [if_neg (hbig _ hle)]
          by_cases h0 : n * m = 0
          · rw [if_pos h0]
            simp only [Sem.run_bind, Sem.run_pure, Result.andThen_ok, hr0 h0, hparts, hfl, newRow, run_newObj]
          · rw [if_neg h0]
            simp only [Sem.run_bind, Sem.run_pure, Result.andThen_ok, run_zeroValue w hzero, hxc, hr1, hparts, hfl, newRow, run_newObj]
        exact ⟨_, { w with heap := w.heap.push (.cells rs.toArray e) }, .slice (some ⟨w.heap.size, 0, none⟩) n n, alloc_cells (el := e) hmem hf hrs ho hlook rfl, by simp [AV.γ, Env.bind_ρ, addr], hrun⟩
      · cases hzs
    · cases hm
  · cases hd
end
end Go.Proofs.YthidihigidchgaaGreatDoor.Sy

namespace Go.Proofs.YthidihigidchgaaGreatDoor.Sy

/-- a bound that is left out, or a number -/
def BoundIs (x : Option AV) (d m i : Nat) : Prop := (x = none ∧ i = d) ∨ (∃ v k, x = some v ∧ i ≤ m ∧ ∀ η, v.γ η = some (.int k (i : Int)))
theorem bound_spec {x : Option AV} {d m : Nat} {k : Nat → Bool} (h : bound x d m k = true) : ∃ i, k i = true ∧ BoundIs x d m i := by
  unfold bound at h
  split at h
  · exact ⟨d, h, .inl ⟨rfl, rfl⟩⟩
  · rename_i v
    obtain ⟨i, n, hn, hv⟩ := asNat_spec h
    split at hn
    · rename_i hle
      exact ⟨n, hn, .inr ⟨v, i, rfl, Nat.le_of_ble_eq_true hle, hv⟩⟩
    · cases hn
theorem run_sliceBound {P : Program} (w : World) {v : AV} {k : IntKind} {i y : Nat} {code : BoundsCode} (h : i ≤ y) : (Instr.sliceBound (.int k (i : Int)) y code).run P w = .ok i w := by
  have : (0 : Int) ≤ i ∧ (i : Int) ≤ y := ⟨by omega, by omega⟩
  simp only [Instr.sliceBound, asIntOf, Sem.run_bind, Sem.run_pure, Result.andThen_ok, if_pos this]
  simp
theorem optγ_some {η : Env} {v : AV} {o : Option Value} (h : optγ η (some v) = some o) : ∃ x, v.γ η = some x ∧ o = some x := by
  simp only [optγ, Option.map_eq_some_iff] at h
  obtain ⟨x, hx, rfl⟩ := h
  exact ⟨x, hx, rfl⟩
/-- the three bounds, without a third one -/
theorem run_bounds2 {P : Program} (w : World) {η : Env} {isS : Bool} {len cap h l : Nat} {lo hi : Option AV} {lo' hi' : Option Value} (hh : BoundIs hi len cap h) (hl : BoundIs lo 0 h l) (e1 : optγ η lo = some lo') (e2 : optγ η hi = some hi') :
    (Instr.sliceBounds isS len cap lo' hi' none).run P w = .ok (l, h, cap) w := by
  unfold Instr.sliceBounds
  rcases hh with ⟨rfl, rfl⟩ | ⟨v, kk, rfl, hle, hv⟩
  · simp only [optγ, Option.some.injEq] at e2; subst e2
    rcases hl with ⟨rfl, rfl⟩ | ⟨z, kz, rfl, hle3, hz⟩
    · simp only [optγ, Option.some.injEq] at e1; subst e1; simp
    · obtain ⟨x, hx, rfl⟩ := optγ_some e1
      rw [hz η] at hx; cases hx
      simp only [Sem.run_bind, Sem.run_pure, run_sliceBound (v := z) w hle3, Result.andThen_ok]
  · obtain ⟨y, hy, rfl⟩ := optγ_some e2
    rw [hv η] at hy; cases hy
    rcases hl with ⟨rfl, rfl⟩ | ⟨z, kz, rfl, hle3, hz⟩
    · simp only [optγ, Option.some.injEq] at e1; subst e1
      simp only [Sem.run_bind, Sem.run_pure, run_sliceBound (v := v) w hle, Result.andThen_ok]
    · obtain ⟨x, hx, rfl⟩ := optγ_some e1
      rw [hz η] at hx; cases hx
      simp only [Sem.run_bind, Sem.run_pure, run_sliceBound (v := v) w hle, run_sliceBound (v := z) w hle3, Result.andThen_ok]
theorem run_bounds3 {P : Program} (w : World) {η : Env} {isS : Bool} {len cap m h l : Nat} {lo hi : Option AV} {mx : AV} {lo' hi' mx' : Option Value} {d : Nat} (hm : BoundIs (some mx) d cap m) (hh : BoundIs hi len m h) (hsome : hi.isSome = true) (hl : BoundIs lo 0 h l)
    (e1 : optγ η lo = some lo') (e2 : optγ η hi = some hi') (e3 : optγ η (some mx) = some mx') :
    (Instr.sliceBounds isS len cap lo' hi' mx').run P w = .ok (l, h, m) w := by
  obtain ⟨x, hx, rfl⟩ := optγ_some e3
  rcases hm with ⟨h0, _⟩ | ⟨v, kk, hv0, hle, hv⟩
  · cases h0
  cases hv0
  rw [hv η] at hx; cases hx
  rcases hh with ⟨rfl, _⟩ | ⟨u, ku, rfl, hle2, hu⟩
  · cases hsome
  obtain ⟨y, hy, rfl⟩ := optγ_some e2
  rw [hu η] at hy; cases hy
  unfold Instr.sliceBounds
  simp only [Sem.run_bind, run_sliceBound (v := mx) w hle, run_sliceBound (v := u) w hle2, Result.andThen_ok]
  rcases hl with ⟨rfl, rfl⟩ | ⟨z, kz, rfl, hle3, hz⟩
  · simp [optγ] at e1; subst e1; simp
  · obtain ⟨x, hx, rfl⟩ := optγ_some e1
    rw [hz η] at hx; cases hx
    simp only [Sem.run_bind, run_sliceBound (v := z) w hle3, Result.andThen_ok, Sem.run_pure]

theorem takeN_spec : ∀ (n : Nat) (l : List Nat) (k : List Nat → Bool), takeN n l k = true → k (l.take n) = true ∧ n ≤ l.length
  | 0, l, k, h => ⟨by simpa [takeN] using h, Nat.zero_le _⟩
  | n + 1, [], k, h => by cases h
  | n + 1, x :: r, k, h => by
    have := takeN_spec n r _ h
    exact ⟨by simpa using this.1, by simpa using this.2⟩
theorem dropN_eq : ∀ (n : Nat) (l : List Nat), dropN n l = l.drop n
  | 0, l => by simp [dropN]
  | n + 1, [] => by simp [dropN]
  | n + 1, x :: l => by simp [dropN, dropN_eq n l]
theorem extract_strB (s : List Nat) (l h : Nat) : (⟨(strB s).toArray⟩ : ByteArray).extract l h = ⟨(strB ((s.drop l).take (h - l))).toArray⟩ := by
  apply ByteArray.ext
  apply Array.ext'
  simp [strB, ByteArray.data_extract, List.extract_eq_take_drop, List.map_take, List.map_drop]
theorem size_strB (s : List Nat) : (⟨(strB s).toArray⟩ : ByteArray).size = s.length := by simp [ByteArray.size, strB]
end Go.Proofs.YthidihigidchgaaGreatDoor.Sy

namespace Go.Proofs.YthidihigidchgaaGreatDoor.Sy

/-- a name is given to a place; memory is as it was -/
theorem Evo.name {η : Env} {H : AH} {N : Nat} {w : World} (hm : Mem η H w) (hf : Fresh η N (N + 1)) (p : Nat × Nat) (c : Option Nat) : Evo η H N w (η.bind N p c) H (N + 1) w := by
  have hfN := hf N (Nat.le_refl _) (Nat.lt_succ_self _)
  have back : ∀ i o q, Tr.look H i = some o → (η.bind N p c).ρ i = some q → η.ρ i = some q := fun i o q hi hq => by
    obtain ⟨r, hr, _⟩ := hm.objs i o hi
    have : i ≠ N := fun e => by rw [e, hfN.1] at hr; cases hr
    rwa [(Env.bind_ne this).1] at hq
  refine ⟨Env.bind_le hfN, fun i hi => Env.bind_ne (by omega), Nat.le_succ _, ⟨fun i o hi => ?_, fun i j oi oj pi pj hi hj hpi hpj he => hm.inj i j oi oj pi pj hi hj (back i oi pi hi hpi) (back j oj pj hj hpj) he⟩, Nat.le_refl _, fun _ _ _ => rfl, ?_, ?_, .refl w⟩
  · obtain ⟨q, hq, hh⟩ := hm.objs i o hi
    exact ⟨q, (Env.bind_le hfN).ρ i q hq, hh.mono (Env.bind_le hfN) rfl⟩
  · rintro b ⟨i, o, q, hi, hq, rfl⟩
    exact .inl ⟨i, o, q, hi, back i o q hi hq, rfl⟩
  · rintro b ⟨i, o, q, hi, ho, hq, rfl⟩
    exact .inl ⟨i, o, q, hi, ho, back i o q hi hq, rfl⟩

section
variable {C : Cx} {P : Program} {T : Tr AV} {H : AH} {N : Nat} {ty : TypeId} {c : Kop} {dst : Option Tmp} {pos : String} {after : Array Edge} {guard : Option (Nat × Bool)} (hC : C.OK' P)

/-- what is cut out of a row -/
theorem cutA_spec {id o s h l m : Nat} (hk : cutA H N id o s h l m c = true) (hhm : h ≤ m) (hlh : l ≤ h) : ∃ v, c (.val v) H N = true ∧
    ∀ η p, η.ρ id = some p → v.γ η = some (.slice (some (if m = l then addr p o else (addr p o).add (l * s))) (h - l) (m - l)) := by
  unfold cutA at hk
  split at hk
  · rename_i he
    have he := Nat.eq_of_beq_eq_true he
    subst he
    have : h = m := by omega
    subst this
    exact ⟨_, hk, fun η p hp => by simp [AV.γ, hp]⟩
  · rename_i he
    have he := Nat.ne_of_beq_eq_false he
    simp only [fzNat_eq] at hk
    refine ⟨_, hk, fun η p hp => ?_⟩
    rw [if_neg he, add_addr]
    have : Nat.sub h l ≤ Nat.sub m l := Nat.sub_le_sub_right hhm l
    simp only [AV.γ, hp, Option.map_some, if_pos this]
    rfl
theorem BoundIs.le {x : Option AV} {d m i : Nat} (h : BoundIs x d m i) (hd : d ≤ m) : i ≤ m := by
  rcases h with ⟨_, rfl⟩ | ⟨_, _, _, h, _⟩
  · exact hd
  · exact h
include hC
theorem opSlice_spec {t : TypeId} {x : Operand} {lo hi mx : Option Operand} (h : opSlice t x lo hi mx C T H N ty c = true) : Goes P T H N (fun tmps => execOp (evt tmps) ⟨dst, .slice t x lo hi mx, ty, pos, after, guard⟩) c := by
  obtain ⟨a, ha, hx⟩ := ev_spec h
  obtain ⟨lo', hlo', _, hlo⟩ := evO_spec ha
  obtain ⟨hi', hhi', _, hhi⟩ := evO_spec hlo'
  obtain ⟨mx', hmx', hmxs, hmx⟩ := evO_spec hhi'
  obtain ⟨u, hu, hund⟩ := under_spec hC.toOK hmx'
  have goV : ∀ v, c (.val v) H N = true → (∀ η w nt tmps, Mem η H w → TRel η T nt tmps → ∃ y, v.γ η = some y ∧ (Instr.sliceAt t (evt tmps x) (lo.map (evt tmps)) (hi.map (evt tmps)) (mx.map (evt tmps))).run P w = .ok y w) →
      Goes P T H N (fun tmps => execOp (evt tmps) ⟨dst, .slice t x lo hi mx, ty, pos, after, guard⟩) c :=
    fun v hv hr => Goes.val (s := fun tmps => Instr.sliceAt t (evt tmps x) (lo.map (evt tmps)) (hi.map (evt tmps)) (mx.map (evt tmps))) hv hr
  split at hu
  · have hmxn : mx = none := by
      cases mx with
      | none => rfl
      | some m => cases hmxs
    subst hmxn
    unfold slice2 at hu
    split at hu
    · rename_i s
      rw [lenN_eq] at hu
      obtain ⟨hb, hu, hbh⟩ := bound_spec hu
      obtain ⟨lb, hu, hbl⟩ := bound_spec hu
      obtain ⟨hk, hle⟩ := takeN_spec _ _ _ hu
      refine goV _ hk fun η w nt tmps hm hT => ⟨_, rfl, ?_⟩
      have ex := str_γ (hx η nt tmps hT)
      have hb1 := run_bounds2 (P := P) w (isS := false) hbh hbl (hlo η nt tmps hT) (hhi η nt tmps hT)
      simp only [Nat.zero_add] at hb1
      simp only [Instr.sliceAt, Sem.run_bind, run_under w hund, Result.andThen_ok, Instr.slice, ex, size_strB, Option.map_none, hb1, Option.isSome_none, Bool.false_eq_true, if_false, Sem.run_pure, extract_strB]
      rw [dropN_eq]; rfl
    · rename_i e
      obtain ⟨hb, hu, hbh⟩ := bound_spec hu
      obtain ⟨lb, hu, hbl⟩ := bound_spec hu
      obtain ⟨s, hk, hsz⟩ := size_spec hC.toOK hu
      have h0 : hb ≤ 0 := hbh.le (Nat.le_refl _)
      have l0 : lb ≤ hb := hbl.le (Nat.zero_le _)
      refine goV _ hk fun η w nt tmps hm hT => ⟨_, rfl, ?_⟩
      have ex : evt tmps x = .slice none 0 0 := by have := hx η nt tmps hT; simp [AV.γ] at this; exact this.symm
      have hb1 := run_bounds2 (P := P) w (isS := true) hbh hbl (hlo η nt tmps hT) (hhi η nt tmps hT)
      obtain rfl : hb = 0 := by omega
      obtain rfl : lb = 0 := by omega
      simp only [Instr.sliceAt, Sem.run_bind, run_under w hund, Result.andThen_ok, Instr.slice, ex, Option.map_none, hb1, run_sizeOf w hsz, Sem.run_pure]
      simp
    · rename_i e id o n cap
      obtain ⟨hb, hu, hbh⟩ := bound_spec hu
      obtain ⟨lb, hu, hbl⟩ := bound_spec hu
      obtain ⟨s, hk, hsz⟩ := size_spec hC.toOK hu
      have l0 : lb ≤ hb := hbl.le (Nat.zero_le _)
      by_cases hnc : n ≤ cap
      · have h0 : hb ≤ cap := hbh.le hnc
        obtain ⟨v, hv, hγ⟩ := cutA_spec hk h0 l0
        refine goV _ hv fun η w nt tmps hm hT => ?_
        obtain ⟨p, hp, hle, ex⟩ := γ_slice (hx η nt tmps hT)
        refine ⟨_, hγ η p hp, ?_⟩
        have hb1 := run_bounds2 (P := P) w (isS := true) hbh hbl (hlo η nt tmps hT) (hhi η nt tmps hT)
        simp only [Instr.sliceAt, Sem.run_bind, run_under w hund, Result.andThen_ok, Instr.slice, ex, Option.map_none, hb1, run_sizeOf w hsz, Sem.run_pure, Option.map_some]
        split <;> rfl
      · have h1 : ∃ v, c (.val v) H N = true := by
          unfold cutA at hk
          split at hk
          · exact ⟨_, hk⟩
          · simp only [fzNat_eq] at hk; exact ⟨_, hk⟩
        obtain ⟨v, hv⟩ := h1
        refine goV v hv fun η w nt tmps hm hT => ?_
        obtain ⟨p, hp, hle, ex⟩ := γ_slice (hx η nt tmps hT)
        exact absurd hle hnc
    · rename_i e id o n y d
      obtain ⟨hb, hu, hbh⟩ := bound_spec hu
      obtain ⟨lb, hu, hbl⟩ := bound_spec hu
      obtain ⟨s, hk, hsz⟩ := size_spec hC.toOK hu
      have l0 : lb ≤ hb := hbl.le (Nat.zero_le _)
      have h0 : hb ≤ n := hbh.le (Nat.le_refl _)
      have run : ∀ η w nt tmps, TRel η T nt tmps → ∃ p cc, η.ρ id = some p ∧ η.κ y = some cc ∧ d + n ≤ cc ∧ (Instr.sliceAt t (evt tmps x) (lo.map (evt tmps)) (hi.map (evt tmps)) ((none : Option Operand).map (evt tmps))).run P w =
          .ok (.slice (some (if cc - d = lb then addr p o else (addr p o).add (lb * s))) (hb - lb) (cc - d - lb)) w := by
        intro η w nt tmps hT
        obtain ⟨p, cc, hp, hcc, hle, ex⟩ := γ_slicex (hx η nt tmps hT)
        refine ⟨p, cc, hp, hcc, hle, ?_⟩
        have hbh' : BoundIs hi' n (cc - d) hb := by
          rcases hbh with ⟨h1, h2⟩ | ⟨v, k, h1, h2, h3⟩
          · exact .inl ⟨h1, h2⟩
          · exact .inr ⟨v, k, h1, by omega, h3⟩
        have hb1 := run_bounds2 (P := P) w (isS := true) hbh' hbl (hlo η nt tmps hT) (hhi η nt tmps hT)
        simp only [Instr.sliceAt, Sem.run_bind, run_under w hund, Result.andThen_ok, Instr.slice, ex, Option.map_none, hb1, run_sizeOf w hsz, Sem.run_pure, Option.map_some]
        split <;> rfl
      split at hk
      · rename_i hlt
        have hlt : lb < n := Nat.le_of_ble_eq_true hlt
        simp only [fzNat_eq] at hk
        refine goV _ hk fun η w nt tmps hm hT => ?_
        obtain ⟨p, cc, hp, hcc, hle, hr⟩ := run η w nt tmps hT
        refine ⟨_, ?_, hr⟩
        have e1 : ¬ (cc - d = lb) := by omega
        have e2 : Nat.add d lb + Nat.sub hb lb ≤ cc := by
          show d + lb + (hb - lb) ≤ cc
          omega
        simp only [AV.γ, hp, hcc, if_pos e2, if_neg e1, add_addr]
        congr 2
        show cc - (d + lb) = cc - d - lb
        omega
      · rename_i hge
        have hge : ¬ lb < n := fun e => by rw [Nat.ble_eq_true_of_le e] at hge; cases hge
        have hln : lb = n := by omega
        split at hk
        · refine goV _ hk fun η w nt tmps hm hT => ?_
          obtain ⟨p, cc, hp, hcc, hle, hr⟩ := run η w nt tmps hT
          refine ⟨_, ?_, hr⟩
          subst hln
          have : hb = 0 := by omega
          subst this
          simp only [AV.γ, hp, hcc, if_pos hle, add_addr]
          simp
        · simp only [fzNat_eq] at hk
          refine Goes.valE (s := fun tmps => Instr.sliceAt t (evt tmps x) (lo.map (evt tmps)) (hi.map (evt tmps)) ((none : Option Operand).map (evt tmps))) hk ⟨Nat.le_succ _, fun η w nt tmps hm hf hT => ?_⟩
          obtain ⟨p, cc, hp, hcc, hle, hr⟩ := run η w nt tmps hT
          have hb0 : hb - n = 0 := by omega
          rw [hln, hb0] at hr
          refine ⟨_, w, _, Evo.name hm hf (if cc - d = n then (p.1, p.2 + o) else (p.1, p.2 + (o + n * s))) (some (cc - d - n)), ?_, hr⟩
          simp only [AV.γ, Env.bind_ρ, Env.bind_κ, Nat.zero_add, Nat.zero_le, if_true, add_addr, Nat.sub_zero]
          split <;> simp [addr]
    · rename_i n e id o
      obtain ⟨hb, hu, hbh⟩ := bound_spec hu
      obtain ⟨lb, hu, hbl⟩ := bound_spec hu
      obtain ⟨s, hk, hsz⟩ := size_spec hC.toOK hu
      have l0 : lb ≤ hb := hbl.le (Nat.zero_le _)
      have h0 : hb ≤ n := hbh.le (Nat.le_refl _)
      obtain ⟨v, hv, hγ⟩ := cutA_spec hk h0 l0
      refine goV _ hv fun η w nt tmps hm hT => ?_
      obtain ⟨p, hp, ex⟩ := γ_ptr (hx η nt tmps hT)
      refine ⟨_, hγ η p hp, ?_⟩
      have hb1 := run_bounds2 (P := P) w (isS := false) hbh hbl (hlo η nt tmps hT) (hhi η nt tmps hT)
      simp only [Instr.sliceAt, Sem.run_bind, run_under w hund, Result.andThen_ok, ex, Instr.sureAddr, Option.map_none, hb1, run_sizeOf w hsz, Sem.run_pure]
    · cases hu
  · rename_i m
    split at hu
    · rename_i hv
      unfold slice3 at hu
      split at hu
      · rename_i e id o n cap
        obtain ⟨mb, hu, hbm⟩ := bound_spec hu
        obtain ⟨hb, hu, hbh⟩ := bound_spec hu
        obtain ⟨lb, hu, hbl⟩ := bound_spec hu
        obtain ⟨s, hk, hsz⟩ := size_spec hC.toOK hu
        have l0 : lb ≤ hb := hbl.le (Nat.zero_le _)
        have h0 : hb ≤ mb := by
          rcases hbh with ⟨h, _⟩ | ⟨_, _, _, h, _⟩
          · cases h
          · exact h
        obtain ⟨v, hv, hγ⟩ := cutA_spec hk h0 l0
        refine goV _ hv fun η w nt tmps hm hT => ?_
        obtain ⟨p, hp, hle, ex⟩ := γ_slice (hx η nt tmps hT)
        refine ⟨_, hγ η p hp, ?_⟩
        have hb1 := run_bounds3 (P := P) w (isS := true) hbm hbh rfl hbl (hlo η nt tmps hT) (hhi η nt tmps hT) (hmx η nt tmps hT)
        simp only [Instr.sliceAt, Sem.run_bind, run_under w hund, Result.andThen_ok, Instr.slice, ex, hb1, run_sizeOf w hsz, Sem.run_pure, Option.map_some]
        split <;> rfl
      · rename_i e id o n y d
        obtain ⟨mb, hu, hbm⟩ := bound_spec hu
        obtain ⟨hb, hu, hbh⟩ := bound_spec hu
        obtain ⟨lb, hu, hbl⟩ := bound_spec hu
        obtain ⟨s, hk, hsz⟩ := size_spec hC.toOK hu
        have l0 : lb ≤ hb := hbl.le (Nat.zero_le _)
        have h0 : hb ≤ mb := by
          rcases hbh with ⟨h, _⟩ | ⟨_, _, _, h, _⟩
          · cases h
          · exact h
        obtain ⟨v, hv, hγ⟩ := cutA_spec hk h0 l0
        refine goV _ hv fun η w nt tmps hm hT => ?_
        obtain ⟨p, cc, hp, hcc, hle, ex⟩ := γ_slicex (hx η nt tmps hT)
        refine ⟨_, hγ η p hp, ?_⟩
        have hbm' : BoundIs (some m) 0 (cc - d) mb := by
          rcases hbm with ⟨h1, _⟩ | ⟨v, k, h1, h2, h3⟩
          · cases h1
          · exact .inr ⟨v, k, h1, by omega, h3⟩
        have hb1 := run_bounds3 (P := P) w (isS := true) hbm' hbh rfl hbl (hlo η nt tmps hT) (hhi η nt tmps hT) (hmx η nt tmps hT)
        simp only [Instr.sliceAt, Sem.run_bind, run_under w hund, Result.andThen_ok, Instr.slice, ex, hb1, run_sizeOf w hsz, Sem.run_pure, Option.map_some]
        split <;> rfl
      · cases hu
    · cases hu
end
end Go.Proofs.YthidihigidchgaaGreatDoor.Sy

namespace Go.Proofs.YthidihigidchgaaGreatDoor.Sy
theorem band {a b : Bool} (h : Bool.and a b = true) : a = true ∧ b = true := by cases a <;> cases b <;> simp_all
theorem nbeq {a b : Nat} (h : Nat.beq a b = true) : a = b := Nat.eq_of_beq_eq_true h
mutual
theorem sameV_eq : ∀ (a b : AV), sameV a b = true → a = b
  | .bool a, b, h => by
    cases b with
    | bool b =>
      cases a <;> cases b <;> simp_all [sameV]
    | _ => cases h
  | .int k a, b, h => by
    cases b with
    | int j b =>
      obtain ⟨h1, h2⟩ := band (show Bool.and (kEq k j) (eqI a b) = true from h)
      rw [eqI_eq] at h2
      rw [kEq_spec h1, of_decide_eq_true h2]
    | _ => cases h
  | .float k a, b, h => by
    cases b with
    | float j b =>
      obtain ⟨h1, h2⟩ := band (show Bool.and (fEq k j) (Nat.beq a b) = true from h)
      rw [fEq_spec h1, nbeq h2]
    | _ => cases h
  | .complex k a b, e, h => by
    cases e with
    | complex j x y =>
      obtain ⟨h1, h2⟩ := band (show Bool.and (fEq k j) (Bool.and (Nat.beq a x) (Nat.beq b y)) = true from h)
      obtain ⟨h2, h3⟩ := band h2
      rw [fEq_spec h1, nbeq h2, nbeq h3]
    | _ => cases h
  | .str a, b, h => by
    cases b with
    | str b =>
      have h : eqNats a b = true := h
      rw [eqNats_eq] at h
      rw [of_decide_eq_true h]
    | _ => cases h
  | .nilp, b, h => by
    cases b with
    | nilp  =>
      rfl
    | _ => cases h
  | .ptr i o, b, h => by
    cases b with
    | ptr j p =>
      obtain ⟨h1, h2⟩ := band (show Bool.and (Nat.beq i j) (Nat.beq o p) = true from h)
      rw [nbeq h1, nbeq h2]
    | _ => cases h
  | .nils, b, h => by
    cases b with
    | nils  =>
      rfl
    | _ => cases h
  | .slice a b c d, e, h => by
    cases e with
    | slice x y z w =>
      obtain ⟨h1, h2⟩ := band (show Bool.and (Bool.and (Nat.beq a x) (Nat.beq b y)) (Bool.and (Nat.beq c z) (Nat.beq d w)) = true from h)
      obtain ⟨h1, h3⟩ := band h1
      obtain ⟨h2, h4⟩ := band h2
      rw [nbeq h1, nbeq h2, nbeq h3, nbeq h4]
    | _ => cases h
  | .slicex a b c d m, e, h => by
    cases e with
    | slicex x y z w u =>
      obtain ⟨h1, h5⟩ := band (show Bool.and (Bool.and (Bool.and (Nat.beq a x) (Nat.beq b y)) (Bool.and (Nat.beq c z) (Nat.beq d w))) (Nat.beq m u) = true from h)
      obtain ⟨h1, h2⟩ := band h1
      obtain ⟨h1, h3⟩ := band h1
      obtain ⟨h2, h4⟩ := band h2
      rw [nbeq h1, nbeq h2, nbeq h3, nbeq h4, nbeq h5]
    | _ => cases h
  | .nilm, b, h => by
    cases b with
    | nilm  =>
      rfl
    | _ => cases h
  | .map i, b, h => by
    cases b with
    | map j =>
      rw [nbeq (show Nat.beq i j = true from h)]
    | _ => cases h
  | .nilFunc, b, h => by
    cases b with
    | nilFunc  =>
      rfl
    | _ => cases h
  | .nilIface, b, h => by
    cases b with
    | nilIface  =>
      rfl
    | _ => cases h
  | .func fn a b, e, h => by
    cases fn with
    | func f =>
      cases e with
      | func gn x y =>
        cases gn with
        | func g =>
          obtain ⟨h1, h2⟩ := band (show Bool.and (Nat.beq f g) (Bool.and (sameL a x) (sameL b y)) = true from h)
          obtain ⟨h2, h3⟩ := band h2
          rw [nbeq h1, sameL_eq a x h2, sameL_eq b y h3]
        | _ => cases h
      | _ => cases h
    | _ => cases h
  | .iface t v, e, h => by
    cases e with
    | iface u w =>
      obtain ⟨h1, h2⟩ := band (show Bool.and (Nat.beq t u) (sameV v w) = true from h)
      rw [nbeq h1, sameV_eq v w h2]
    | _ => cases h
  | .agg a, e, h => by
    cases e with
    | agg b => rw [sameL_eq a b (show sameL a b = true from h)]
    | _ => cases h
  | .tuple a, e, h => by
    cases e with
    | tuple b => rw [sameL_eq a b (show sameL a b = true from h)]
    | _ => cases h
  | .atom i, b, h => by
    cases b with
    | atom j =>
      rw [nbeq (show Nat.beq i j = true from h)]
    | _ => cases h
  | .yield _, _, h => by cases h
theorem sameL_eq : ∀ (a b : List AV), sameL a b = true → a = b
  | [], [], _ => rfl
  | x :: r, y :: s, h => by
    obtain ⟨h1, h2⟩ := band (show Bool.and (sameV x y) (sameL r s) = true from h)
    rw [sameV_eq x y h1, sameL_eq r s h2]
  | [], _ :: _, h => by cases h
  | _ :: _, [], h => by cases h
end

section
variable {C : Cx} {P : Program} {H : AH} (hC : C.OK' P)
include hC
theorem plainKey_spec {t : TypeId} {v : AV} (h : plainKey C t v = true) : ∃ u, P.underlying t = some u ∧ (∀ fs, u ≠ .struct fs) ∧ ∀ η w x b D, v.γ η = some x → (Instr.checkKey b (D + 1) t x).run P w = .ok () w := by
  obtain ⟨u, hu, hund⟩ := under_spec hC.toOK h
  refine ⟨u, hund, ?_, fun η w x b D hx => ?_⟩
  · intro fs e; subst e; simp at hu
  split at hu
  · rw [γ_int hx]; simp [Instr.checkKey, run_under w hund]
  · rw [str_γ hx]; simp [Instr.checkKey, run_under w hund]
  · rw [γ_bool hx]; simp [Instr.checkKey, run_under w hund]
  · cases hu
theorem structKey_spec {t : TypeId} {v : AV} (h : structKey C t v = true) : ∃ fs, P.underlying t = some (.struct fs) ∧ ∀ η w x b D, v.γ η = some x → (Instr.checkKey b (D + 2) t x).run P w = .ok () w := by
  obtain ⟨u, hu, hund⟩ := under_spec hC.toOK h
  split at hu
  · rename_i fs cs
    refine ⟨fs, hund, fun η w x b D hx => ?_⟩
    obtain ⟨xs, hxs, rfl⟩ := γ_agg hx
    rw [Instr.checkKey]
    simp only [Sem.run_bind, run_under w hund, Result.andThen_ok]
    rw [← Array.forIn_toList]
    clear hx
    generalize fs.toList = L at hu
    induction L with
    | nil => simp
    | cons f r ih =>
      obtain ⟨v, hv, hp⟩ := part_spec hC.toOK (show partA C f.type cs f.offset (fun v => match plainKey C f.type v with
        | true => plainParts C cs r
        | false => false) = true from hu)
      split at hv
      · rename_i hk
        obtain ⟨u, _, _, hchk⟩ := plainKey_spec hC hk
        obtain ⟨x, hxv, hrun⟩ := hp η xs hxs
        have ih := ih hv
        by_cases hn : f.name = "_"
        · simp only [List.forIn_cons, Sem.run_bind, hn, ne_eq, not_true_eq_false, if_false, Sem.run_pure, Result.andThen_ok]
          exact ih
        · simp only [List.forIn_cons, Sem.run_bind, hn, ne_eq, not_false_eq_true, if_true, hrun w, Result.andThen_ok, hchk η w x b D hxv, Sem.run_pure]
          exact ih
      · cases hv
  · cases hu
end
end Go.Proofs.YthidihigidchgaaGreatDoor.Sy

namespace Go.Proofs.YthidihigidchgaaGreatDoor.Sy

theorem wrap_small {n : Nat} (h : n ≤ 1000000000) : IntKind.i64.wrap (n : Int) = n := by
  unfold IntKind.wrap
  simp [IntKind.bits, IntKind.signed]
  omega
section
variable {C : Cx} {P : Program} {T : Tr AV} {H : AH} {N : Nat} {ty : TypeId} {c : Kop} {dst : Option Tmp} {pos : String} {after : Array Edge} {guard : Option (Nat × Bool)} (hC : C.OK' P)
include hC
theorem opMakeSlice_spec {t : TypeId} {l cp : Operand} (h : opMakeSlice t l cp C T H N ty c = true) : Goes P T H N (fun tmps => execOp (evt tmps) ⟨dst, .makeSlice t l cp, ty, pos, after, guard⟩) c := by
  obtain ⟨a, ha, hl⟩ := ev_spec h
  obtain ⟨b, hb, hcp⟩ := ev_spec ha
  obtain ⟨d, hd, hund⟩ := under_spec hC.toOK hb
  split at hd
  · rename_i e
    obtain ⟨k1, n1, hd, hn1⟩ := asNat_spec hd
    obtain ⟨k2, n2, hd, hn2⟩ := asNat_spec hd
    obtain ⟨i, hd, hinf, _, hsz, _⟩ := ty_spec hC.toOK hd
    split at hd
    · rename_i hby
      have hby : i.info.bytes * n2 ≤ 1000000000 := Nat.le_of_ble_eq_true hby
      split at hd
      · rename_i h2
        have h2 : n2 ≤ 1000000000 := Nat.le_of_ble_eq_true h2
        split at hd
        · rename_i h12
          have h12 : n1 ≤ n2 := Nat.le_of_ble_eq_true h12
          obtain ⟨z, zv, hz, hzγ, hzero⟩ := zero_spec hC.toOK hd
          obtain ⟨zs, hzs, hcs⟩ := cellsOf_spec hz
          rw [lenL_eq] at hzs
          split at hzs
          · rename_i hmz
            have hmz := Nat.eq_of_beq_eq_true hmz
            rw [timesK_eq] at hzs
            obtain ⟨H', hk, hlook, ho⟩ := newCells_spec hzs
            have hgo : ∀ s : Array Value → Sem Value, s = (fun tmps => Instr.makeSlice t (evt tmps l) (evt tmps cp)) → ValsE P T H N s (.slice N 0 n1 n2) H' (N + 1) → Goes P T H N (fun tmps => execOp (evt tmps) ⟨dst, .makeSlice t l cp, ty, pos, after, guard⟩) c := fun s hs hv => by
              subst hs
              exact Goes.valE hk hv
            refine hgo _ rfl ⟨Nat.le_succ _, fun η w nt tmps hmem hf hT => ?_⟩
            obtain ⟨xs, hxs, hxc⟩ := hcs η zv (hzγ η)
            have hxl : xs.length = i.size := by rw [γs_length hxs]; omega
            have e1 : evt tmps l = .int k1 (n1 : Int) := by have := hl η nt tmps hT; rw [hn1 η] at this; exact (Option.some.inj this).symm
            have e2 : evt tmps cp = .int k2 (n2 : Int) := by have := hcp η nt tmps hT; rw [hn2 η] at this; exact (Option.some.inj this).symm
            have hsz' : (P.info? e).map (·.size) = some i.size := by rw [hinf, hsz]; rfl
            have hr1 : (Array.range (n2 * i.size)).map (fun i => xs.toArray[i % xs.toArray.size]!) = ((List.replicate n2 xs).flatten).toArray := by
              rw [← range_times, hxl]
            have hr0 : n2 * i.size = 0 → (Array.range (n2 * i.size)).map (fun i => (#[] : Array Value)[i % (#[] : Array Value).size]!) = ((List.replicate n2 xs).flatten).toArray := fun e0 => by
              rw [← hr1, e0]; simp
            have hrun : (Instr.makeSlice t (.int k1 (n1 : Int)) (.int k2 (n2 : Int))).run P w = .ok (.slice (some ⟨w.heap.size, 0, none⟩) n1 n2) { w with heap := w.heap.push (.cells ((List.replicate n2 xs).flatten).toArray e) } := by
              simp only [Instr.makeSlice, Sem.run_bind, run_under w hund, Result.andThen_ok, asInt, asIntOf, Sem.run_pure, run_typeInfo w hinf, wrap_small h2, wrap_small (Nat.le_trans h12 h2)]
              have c1 : ((decide ((n2 : Int) < 0) || decide ((i.info.bytes : Int) * (n2 : Int) > 2 ^ 48)) || decide ((n1 : Int) < 0) || decide ((n1 : Int) > (n2 : Int))) = false := by
                have h3 : ((i.info.bytes * n2 : Nat) : Int) ≤ ((1000000000 : Nat) : Int) := Int.ofNat_le.2 hby
                rw [Int.natCast_mul] at h3
                have hp : (2 : Int) ^ 48 = 281474976710656 := by decide
                simp only [hp, Bool.or_eq_false_iff, decide_eq_false_iff_not]
                refine ⟨⟨⟨?_, ?_⟩, ?_⟩, ?_⟩ <;> omega
              rw [if_neg (by rw [c1]; simp)]
              simp only [Sem.run_bind, run_askRoom, Result.andThen_ok, run_sizeOf w hsz', Int.toNat_natCast]
              by_cases h0 : n2 * i.size = 0
              · rw [if_pos h0]
                simp only [Sem.run_bind, Sem.run_pure, Result.andThen_ok, hr0 h0, newRow, run_newObj]
              · rw [if_neg h0]
                simp only [Sem.run_bind, Sem.run_pure, Result.andThen_ok, run_zeroValue w hzero, hxc, hr1, newRow, run_newObj]
            refine ⟨_, { w with heap := w.heap.push (.cells ((List.replicate n2 xs).flatten).toArray e) }, .slice (some ⟨w.heap.size, 0, none⟩) n1 n2, alloc_cells (el := e) hmem hf (γs_times hxs n2) ho hlook rfl, by simp [AV.γ, Env.bind_ρ, addr, h12], ?_⟩
            show (Instr.makeSlice t (evt tmps l) (evt tmps cp)).run P w = _
            rw [e1, e2]; exact hrun
          · cases hzs
        · cases hd
      · cases hd
    · cases hd
  · cases hd

end
/-! Maps. -/
theorem sameKey_spec {u : TypeDesc} {a b : AV} {k : Bool → Bool} (h : sameKey u a b k = true) : ∃ r, k r = true ∧ ∀ η x y, a.γ η = some x → b.γ η = some y → Instr.sameNow u x y = some r := by
  unfold sameKey at h
  split at h
  · split at h
    · rename_i hk
      have hk := kEq_spec hk
      subst hk
      rw [fzBool_eq] at h
      refine ⟨_, h, fun η x y hx hy => ?_⟩
      rw [γ_int hx, γ_int hy, eqI_eq]
      simp only [Instr.sameNow, if_true]; rfl
    · cases h
  · refine ⟨_, eqStr_spec h, fun η x y hx hy => ?_⟩
    rw [str_γ hx, str_γ hy]
    simp only [Instr.sameNow]
    rw [beq_toListBytes, str_beq]
  · rw [fzBool_eq] at h
    refine ⟨_, h, fun η x y hx hy => ?_⟩
    rw [γ_bool hx, γ_bool hy]
    rename_i a b
    cases a <;> cases b <;> rfl
  · cases h
theorem entsγ_cons {η : Env} {e : AEnt} {r : List AEnt} {l : List MapEntry} : entsγ η (e :: r) = some l ↔ ∃ x s, entγ η e = some x ∧ entsγ η r = some s ∧ l = x :: s := by
  simp only [entsγ]
  constructor
  · intro h
    split at h
    · rename_i y z hy hz
      exact ⟨y, z, hy, hz, (Option.some.inj h).symm⟩
    · cases h
  · rintro ⟨x, s, hx, hs, rfl⟩
    rw [hx, hs]
theorem entγ_parts {η : Env} {e : AEnt} {x : MapEntry} (h : entγ η e = some x) : e.key.γ η = some x.key ∧ e.val.γ η = some x.val ∧ x.born = e.born := by
  simp only [entγ] at h
  split at h
  · rename_i k v hk hv
    cases h
    exact ⟨hk, hv, rfl⟩
  · cases h
theorem entγ_mk {η : Env} {e : AEnt} {k v : Value} (hk : e.key.γ η = some k) (hv : e.val.γ η = some v) : entγ η e = some ⟨k, v, e.born⟩ := by simp [entγ, hk, hv]
theorem findE_spec {u : TypeDesc} {key : AV} : ∀ (es : List AEnt) (i : Nat) (k : Option (Nat × AEnt) → Bool), findE u key es i k = true → ∃ r, k r = true ∧
    (∀ j e, r = some (j, e) → i ≤ j ∧ es[j - i]? = some e ∧ ∀ η x y, key.γ η = some x → e.key.γ η = some y → Instr.sameNow u x y = some true) ∧
    ∀ η x l, key.γ η = some x → entsγ η es = some l → Instr.findNow u x l i = some (match r with | some (j, _) => some (j, (l.getD (j - i) ⟨undef, undef, 0⟩).val) | none => none)
  | [], i, k, h => ⟨none, h, by simp, fun η x l hx hl => by simp [entsγ] at hl; subst hl; rfl⟩
  | e :: es, i, k, h => by
    simp only [findE] at h
    obtain ⟨r, hr, hs⟩ := sameKey_spec h
    cases r with
    | true =>
      refine ⟨some (i, e), hr, ?_, fun η x l hx hl => ?_⟩
      · intro j e' he
        cases he
        exact ⟨Nat.le_refl _, by simp, hs⟩
      · obtain ⟨y, s, hy, hss, rfl⟩ := entsγ_cons.1 hl
        obtain ⟨h1, h2, h3⟩ := entγ_parts hy
        simp only [Instr.findNow, hs η x y.key hx h1]
        simp
    | false =>
      obtain ⟨q, hq, hp, hf⟩ := findE_spec es (i + 1) k hr
      refine ⟨q, hq, ?_, fun η x l hx hl => ?_⟩
      · intro j e' he
        obtain ⟨h1, h2, h3⟩ := hp j e' he
        refine ⟨by omega, ?_, h3⟩
        obtain ⟨z, hz⟩ : ∃ z, j - i = z + 1 := ⟨j - i - 1, by omega⟩
        have : j - (i + 1) = z := by omega
        rw [hz]; rw [this] at h2; simpa using h2
      · obtain ⟨y, s, hy, hss, rfl⟩ := entsγ_cons.1 hl
        obtain ⟨h1, h2, h3⟩ := entγ_parts hy
        simp only [Instr.findNow, hs η x y.key hx h1]
        rw [hf η x s hx hss]
        cases q with
        | none => rfl
        | some q =>
          obtain ⟨j, e'⟩ := q
          have := (hp j e' rfl).1
          obtain ⟨z, hz⟩ : ∃ z, j - i = z + 1 := ⟨j - i - 1, by omega⟩
          have hz2 : j - (i + 1) = z := by omega
          simp [hz, hz2]
theorem entsγ_get {η : Env} : ∀ {es : List AEnt} {l : List MapEntry} {j : Nat} {e : AEnt}, entsγ η es = some l → es[j]? = some e → ∃ x, l[j]? = some x ∧ entγ η e = some x
  | [], l, j, e, _, h => by simp at h
  | a :: es, l, j, e, hl, h => by
    obtain ⟨y, s, hy, hss, rfl⟩ := entsγ_cons.1 hl
    cases j with
    | zero => simp at h; subst h; exact ⟨y, rfl, hy⟩
    | succ j => simp at h; simpa using entsγ_get hss h
theorem mapOf_spec {H : AH} {id : Nat} {k : List AEnt → Nat → Bool} (h : AH.mapOf H id k = true) : ∃ es cl, Tr.look H id = some (.map es cl) ∧ k es cl = true := by
  obtain ⟨o, ho, hk⟩ := Tr.get_spec h
  split at hk
  · exact ⟨_, _, ho, hk⟩
  · cases hk
/-- two keys that are equal are the same to the bit -/
theorem sameBits_of {u : TypeDesc} {x y : Value} (h : Instr.sameNow u x y = some true) (D : Nat) : Instr.sameBits D x y = true ∧ Instr.sameBits D y x = true := by
  cases u <;> cases x <;> cases y <;> simp [Instr.sameNow] at h
  · subst h; cases D <;> simp [Instr.sameBits]
  · obtain ⟨rfl, rfl⟩ := h; cases D <;> simp [Instr.sameBits]
  · rename_i a b
    have h' : (b == a) = true := by
      rw [beq_toListBytes] at h ⊢
      simp only [beq_iff_eq] at h ⊢
      exact h.symm
    cases D <;> exact ⟨h, h'⟩
theorem run_keyStays {P : Program} {w : World} {u : TypeDesc} {x y : Value} (h : Instr.sameNow u x y = some true) : (Instr.keyThatStays y x).run P w = .ok x w := by
  unfold Instr.keyThatStays
  rw [if_pos (sameBits_of h 10000).2]; rfl
section
variable {C : Cx} {P : Program} {T : Tr AV} {H : AH} {N : Nat} {ty : TypeId} {c : Kop} {dst : Option Tmp} {pos : String} {after : Array Edge} {guard : Option (Nat × Bool)} (hC : C.OK' P)
include hC
omit hC in
theorem run_findKey {w : World} {t : TypeId} {u : TypeDesc} {x : Value} {l : List MapEntry} {r : Option (Nat × Value)} (hu : P.underlying t = some u) (h : Instr.findNow u x l 0 = some r) : (Instr.findKey t x l).run P w = .ok r w := by
  simp only [Instr.findKey, Sem.run_bind, run_under w hu, Result.andThen_ok, h, Sem.run_pure]
omit hC in
theorem plainVs_bits {η : Env} {D : Nat} : ∀ {cs : List AV} {xs : List Value}, plainVs cs = true → γs η cs = some xs → ((xs.zip xs).all fun (x, y) => Instr.sameBits D x y) = true
  | [], xs, _, hx => by
    have : xs = [] := by simpa [γs] using hx.symm
    subst this; rfl
  | v :: r, xs, h, hx => by
    obtain ⟨y, s, hy, hs, rfl⟩ := γs_cons.1 hx
    simp only [plainVs] at h
    split at h
    · rename_i hv
      have ih := plainVs_bits (D := D) h hs
      simp only [List.zip_cons_cons, List.all_cons, Bool.and_eq_true]
      refine ⟨?_, ih⟩
      unfold plainV at hv
      split at hv
      · rw [γ_bool hy]; cases D <;> simp [Instr.sameBits]
      · rw [γ_int hy]; cases D <;> simp [Instr.sameBits]
      · rw [str_γ hy]
        cases D <;> simp only [Instr.sameBits] <;> rw [beq_toListBytes] <;> simp
      · cases hv
    · cases h
theorem findS_spec {kt : TypeId} {key : AV} : ∀ (es : List AEnt) (i : Nat) (k : Option (Nat × AEnt) → Bool), findS C H kt key es i k = true → ∃ r, k r = true ∧
    (∀ j e, r = some (j, e) → i ≤ j ∧ es[j - i]? = some e) ∧
    ∀ η w x l, Mem η H w → key.γ η = some x → entsγ η es = some l → (Instr.findAsking kt x l i).run P w = .ok (match r with | some (j, _) => some (j, (l.getD (j - i) ⟨undef, undef, 0⟩).val) | none => none) w
  | [], i, k, h => ⟨none, h, by simp, fun η w x l _ hx hl => by simp [entsγ] at hl; subst hl; simp [Instr.findAsking]⟩
  | e :: es, i, k, h => by
    have h : eqV C H 40 kt key e.key (fun b => match b with
      | true => k (some (i, e))
      | false => findS C H kt key es (Nat.succ i) k) = true := h
    obtain ⟨b, hb, he⟩ := (eqV_spec hC.toOK (H := H) 40).1 kt key e.key _ h
    have ask : ∀ η w x y, Mem η H w → key.γ η = some x → e.key.γ η = some y → (Op.equal kt x y).run P w = .ok b w := fun η w x y hm hx hy => he η w x y hm hx hy 10000 (by omega)
    cases b with
    | true =>
      refine ⟨some (i, e), hb, ?_, fun η w x l hm hx hl => ?_⟩
      · intro j e' h
        cases h
        exact ⟨Nat.le_refl _, by simp⟩
      · obtain ⟨y, s, hy, hss, rfl⟩ := entsγ_cons.1 hl
        obtain ⟨h1, h2, h3⟩ := entγ_parts hy
        simp only [Instr.findAsking, Sem.run_bind, ask η w x y.key hm hx h1, Result.andThen_ok]
        simp
    | false =>
      obtain ⟨q, hq, hp, hf⟩ := findS_spec es (i + 1) k hb
      refine ⟨q, hq, ?_, fun η w x l hm hx hl => ?_⟩
      · intro j e' he
        obtain ⟨h1, h2⟩ := hp j e' he
        refine ⟨by omega, ?_⟩
        obtain ⟨z, hz⟩ : ∃ z, j - i = z + 1 := ⟨j - i - 1, by omega⟩
        have : j - (i + 1) = z := by omega
        rw [hz]; rw [this] at h2; simpa using h2
      · obtain ⟨y, s, hy, hss, rfl⟩ := entsγ_cons.1 hl
        obtain ⟨h1, h2, h3⟩ := entγ_parts hy
        simp only [Instr.findAsking, Sem.run_bind, ask η w x y.key hm hx h1, Result.andThen_ok]
        have := hf η w x s hm hx hss
        simp only [Bool.false_eq_true, if_false]
        rw [this]
        cases q with
        | none => rfl
        | some q =>
          obtain ⟨j, e'⟩ := q
          have := (hp j e' rfl).1
          obtain ⟨z, hz⟩ : ∃ z, j - i = z + 1 := ⟨j - i - 1, by omega⟩
          have hz2 : j - (i + 1) = z := by omega
          simp [hz, hz2]
/-- a key is looked for -/
theorem findAny_spec {kt : TypeId} {key : AV} {es : List AEnt} {k : Option (Nat × AEnt) → Bool} (h : findAny C H kt key es k = true) : ∃ r, k r = true ∧
    (∀ j e, r = some (j, e) → es[j]? = some e ∧ ∀ b, staysA C kt e.key key b = true → b = true ∧ ∀ η w x y, key.γ η = some x → e.key.γ η = some y → (Instr.keyThatStays y x).run P w = .ok x w) ∧
    (∀ η w x b, key.γ η = some x → (Instr.checkKey b 10000 kt x).run P w = .ok () w) ∧
    ∀ η w x l, Mem η H w → key.γ η = some x → entsγ η es = some l → (Instr.findKey kt x l).run P w = .ok (match r with | some (j, _) => some (j, (l.getD j ⟨undef, undef, 0⟩).val) | none => none) w := by
  unfold findAny at h
  split at h
  · rename_i hpk
    obtain ⟨uk, huk, _, hchk⟩ := plainKey_spec hC hpk
    obtain ⟨u2, hk, hu2⟩ := under_spec hC.toOK h
    rw [huk] at hu2; cases hu2
    obtain ⟨r, hr, hp, hf⟩ := findE_spec es 0 _ hk
    refine ⟨r, hr, fun j e he => ?_, fun η w x b hx => hchk η w x b 9999 hx, fun η w x l _ hx hl => ?_⟩
    · obtain ⟨_, hej, hsame⟩ := hp j e he
      refine ⟨by simpa using hej, fun b hb => ⟨?_, fun η w x y hx hy => run_keyStays (hsame η x y hx hy)⟩⟩
      simpa [staysA, hpk] using hb
    · have := hf η x l hx hl
      simp only [Nat.sub_zero] at this
      exact run_findKey huk this
  · rename_i hpk
    split at h
    · rename_i hsk
      obtain ⟨fs, hus, hchk⟩ := structKey_spec hC hsk
      obtain ⟨r, hr, hp, hf⟩ := findS_spec hC es 0 _ h
      refine ⟨r, hr, fun j e he => ?_, fun η w x b hx => hchk η w x b 9998 hx, fun η w x l hm hx hl => ?_⟩
      · obtain ⟨_, hej⟩ := hp j e he
        refine ⟨by simpa using hej, fun b hb => ?_⟩
        unfold staysA at hb
        rw [hpk] at hb
        simp only at hb
        split at hb
        · rename_i hsame
          have hsame := sameV_eq _ _ hsame
          split at hb
          · rename_i hpl
            refine ⟨hb, fun η w x y hx hy => ?_⟩
            rw [hsame, hx] at hy
            cases hy
            cases key with
            | agg cs =>
              obtain ⟨xs, hxs, rfl⟩ := γ_agg hx
              have hbits := plainVs_bits (D := 9999) (show plainVs cs = true from hpl) hxs
              have : Instr.sameBits 10000 (.agg xs.toArray) (.agg xs.toArray) = true := by
                simp only [Instr.sameBits, beq_self_eq_true, Bool.true_and]
                exact hbits
              unfold Instr.keyThatStays
              rw [if_pos this]; rfl
            | _ => cases hpl
          · cases hb
        · cases hb
      · have hfa := hf η w x l hm hx hl
        simp only [Nat.sub_zero] at hfa
        cases l with
        | nil =>
          have : (Instr.findKey kt x []).run P w = .ok none w := run_findKey hus rfl
          rw [this]
          have e : es = [] := by
            cases es with
            | nil => rfl
            | cons a b => obtain ⟨_, _, _, _, h⟩ := entsγ_cons.1 hl; cases h
          subst e
          simp only [Instr.findAsking, Sem.run_pure] at hfa
          exact hfa
        | cons a l =>
          have : Instr.findNow (.struct fs) x (a :: l) 0 = none := by simp [Instr.findNow, Instr.sameNow]
          simp only [Instr.findKey, Sem.run_bind, run_under w hus, Result.andThen_ok, this]
          exact hfa
    · cases h
theorem lookV {t : TypeId} {x ix : Operand} {ok : Bool} {k : Kv} (h : (ev x T fun x => ev ix T fun ix => lookupA C H t x ix ok k) = true) : ∃ v, k v = true ∧ Vals P T H (fun tmps => Instr.lookup t (evt tmps x) (evt tmps ix) ok) v := by
  obtain ⟨a, ha, hx⟩ := ev_spec h
  obtain ⟨key, hkey, hix⟩ := ev_spec ha
  obtain ⟨d, hd, hund⟩ := under_spec hC.toOK hkey
  -- what comes out
  have out : ∀ (v : AV) (b : Bool), lookOut ok k v b = true →
      (∀ η w nt tmps, Mem η H w → TRel η T nt tmps → ∃ y, v.γ η = some y ∧ (Instr.lookup t (evt tmps x) (evt tmps ix) ok).run P w = .ok (if ok then .tuple #[y, .bool b] else y) w) →
      ∃ v, k v = true ∧ Vals P T H (fun tmps => Instr.lookup t (evt tmps x) (evt tmps ix) ok) v := by
    intro v b hv hr
    cases ok with
    | true =>
      refine ⟨_, hv, fun η w nt tmps hm hT => ?_⟩
      obtain ⟨y, hy, hr⟩ := hr η w nt tmps hm hT
      exact ⟨.tuple #[y, .bool b], by simp [AV.γ, γs, hy], hr⟩
    | false =>
      refine ⟨_, hv, fun η w nt tmps hm hT => ?_⟩
      obtain ⟨y, hy, hr⟩ := hr η w nt tmps hm hT
      exact ⟨y, hy, hr⟩
  clear h ha hkey
  split at hd
  · rename_i kt et
    split at hd
    · obtain ⟨r, hr, hpe, hchk, hf⟩ := findAny_spec (P := P) hC hd
      obtain ⟨z, zv, hz, hzγ, hzero⟩ := zero_spec hC.toOK hr
      refine out z false hz fun η w nt tmps hm hT => ⟨zv, hzγ η, ?_⟩
      have ex : evt tmps x = .map none := by have := hx η nt tmps hT; simp [AV.γ] at this; exact this.symm
      have hff := hf η w _ [] hm (hix η nt tmps hT) rfl
      have hr0 : r = none := by
        cases r with
        | none => rfl
        | some r => obtain ⟨j, e⟩ := r; have := (hpe j e rfl).1; simp at this
      subst hr0
      have hfk : (Instr.findKey kt (evt tmps ix) #[].toList).run P w = .ok none w := hff
      simp only [Instr.lookup, Sem.run_bind, run_under w hund, Result.andThen_ok, ex, Sem.run_pure, hchk η w _ _ (hix η nt tmps hT), hfk, run_zeroValue w hzero]
    · rename_i id
      obtain ⟨es, cl, hob, hk⟩ := mapOf_spec hd
      obtain ⟨r, hr, hp, hchk, hf⟩ := findAny_spec (P := P) hC hk
      have base : ∀ η w nt tmps, Mem η H w → TRel η T nt tmps → ∃ l p, η.ρ id = some p ∧ evt tmps x = .map (some p.1) ∧ entsγ η es = some l ∧ w.heap[p.1]? = some (.map l.toArray cl) := by
        intro η w nt tmps hm hT
        obtain ⟨p, hp, ex⟩ := γ_map (hx η nt tmps hT)
        obtain ⟨q, hq, _, l, hl, hh⟩ := hm.objs id _ hob
        rw [hp] at hq; cases hq
        exact ⟨l, p, hp, ex, hl, hh⟩
      cases r with
      | some r =>
        obtain ⟨j, e⟩ := r
        have hej := (hp j e rfl).1
        refine out e.val true hr fun η w nt tmps hm hT => ?_
        obtain ⟨l, p, hpp, ex, hl, hh⟩ := base η w nt tmps hm hT
        obtain ⟨y, hy, hye⟩ := entsγ_get hl hej
        obtain ⟨_, hv, _⟩ := entγ_parts hye
        refine ⟨y.val, hv, ?_⟩
        have hff := hf η w _ l hm (hix η nt tmps hT) hl
        have hg : (l.getD j ⟨undef, undef, 0⟩) = y := by simp [List.getD, hy]
        simp only [hg] at hff
        have hfk : (Instr.findKey kt (evt tmps ix) l.toArray.toList).run P w = .ok (some (j, y.val)) w := hff
        have hgo : (getObj p.1).run P w = .ok (.map l.toArray cl) w := by simp [getObj, Sem.run, hh]
        simp only [Instr.lookup, Sem.run_bind, run_under w hund, Result.andThen_ok, ex, hgo, Sem.run_pure, hchk η w _ _ (hix η nt tmps hT), hfk]
      | none =>
        obtain ⟨z, zv, hz, hzγ, hzero⟩ := zero_spec hC.toOK hr
        refine out z false hz fun η w nt tmps hm hT => ⟨zv, hzγ η, ?_⟩
        obtain ⟨l, p, hpp, ex, hl, hh⟩ := base η w nt tmps hm hT
        have hff := hf η w _ l hm (hix η nt tmps hT) hl
        have hfk : (Instr.findKey kt (evt tmps ix) l.toArray.toList).run P w = .ok none w := hff
        have hgo : (getObj p.1).run P w = .ok (.map l.toArray cl) w := by simp [getObj, Sem.run, hh]
        simp only [Instr.lookup, Sem.run_bind, run_under w hund, Result.andThen_ok, ex, hgo, Sem.run_pure, hchk η w _ _ (hix η nt tmps hT), hfk, run_zeroValue w hzero]
    · cases hd
  · cases hd
theorem opLookup_spec {t : TypeId} {x ix : Operand} {ok : Bool} (h : opLookup t x ix ok C T H N ty c = true) : Goes P T H N (fun tmps => execOp (evt tmps) ⟨dst, .lookup t x ix ok, ty, pos, after, guard⟩) c := by
  obtain ⟨v, hv, hV⟩ := lookV (P := P) hC (k := giveV H N c) h
  exact Goes.val (s := fun tmps => Instr.lookup t (evt tmps x) (evt tmps ix) ok) hv hV
end
end Go.Proofs.YthidihigidchgaaGreatDoor.Sy

namespace Go.Proofs.YthidihigidchgaaGreatDoor.Sy
theorem setE_spec : ∀ (es : List AEnt) (i : Nat) (e : AEnt) (k : List AEnt → Bool), setE es i e k = true → k (es.set i e) = true ∧ i < es.length
  | [], _, _, _, h => by cases h
  | x :: r, 0, e, k, h => ⟨h, by simp⟩
  | x :: r, i + 1, e, k, h => by
    have := setE_spec r i e _ h
    exact ⟨by simpa using this.1, by simpa using this.2⟩
theorem pushE_spec : ∀ (es : List AEnt) (e : AEnt) (k : List AEnt → Bool), pushE es e k = k (es ++ [e])
  | [], _, _ => rfl
  | x :: r, e, k => by simp only [pushE]; rw [pushE_spec]; rfl
theorem delE_spec : ∀ (es : List AEnt) (i : Nat) (k : List AEnt → Bool), delE es i k = true → k (es.eraseIdx i) = true ∧ i < es.length
  | [], _, _, h => by cases h
  | x :: r, 0, k, h => ⟨h, by simp⟩
  | x :: r, i + 1, k, h => by
    have := delE_spec r i _ h
    exact ⟨by simpa using this.1, by simpa using this.2⟩
theorem entsγ_length {η : Env} : ∀ {es : List AEnt} {l : List MapEntry}, entsγ η es = some l → l.length = es.length
  | [], l, h => by simp [entsγ] at h; simp [← h]
  | e :: r, l, h => by
    obtain ⟨x, s, _, hs, rfl⟩ := entsγ_cons.1 h
    simp [entsγ_length hs]
theorem entsγ_set {η : Env} {e : AEnt} {x : MapEntry} (he : entγ η e = some x) : ∀ {es : List AEnt} {l : List MapEntry} (i : Nat), entsγ η es = some l → entsγ η (es.set i e) = some (l.set i x)
  | [], l, i, h => by simp [entsγ] at h; subst h; simp [entsγ]
  | a :: es, l, i, h => by
    obtain ⟨y, s, hy, hs, rfl⟩ := entsγ_cons.1 h
    cases i with
    | zero => exact entsγ_cons.2 ⟨x, s, he, hs, rfl⟩
    | succ i => exact entsγ_cons.2 ⟨y, s.set i x, hy, entsγ_set he i hs, rfl⟩
theorem entsγ_append {η : Env} {e : AEnt} {x : MapEntry} (he : entγ η e = some x) : ∀ {es : List AEnt} {l : List MapEntry}, entsγ η es = some l → entsγ η (es ++ [e]) = some (l ++ [x])
  | [], l, h => by simp [entsγ] at h; subst h; exact entsγ_cons.2 ⟨x, [], he, by simp [entsγ], rfl⟩
  | a :: es, l, h => by
    obtain ⟨y, s, hy, hs, rfl⟩ := entsγ_cons.1 h
    exact entsγ_cons.2 ⟨y, s ++ [x], hy, entsγ_append he hs, rfl⟩
theorem entsγ_erase {η : Env} : ∀ {es : List AEnt} {l : List MapEntry} (i : Nat), entsγ η es = some l → entsγ η (es.eraseIdx i) = some (l.eraseIdx i)
  | [], l, i, h => by simp [entsγ] at h; subst h; simp [entsγ]
  | a :: es, l, i, h => by
    obtain ⟨y, s, hy, hs, rfl⟩ := entsγ_cons.1 h
    cases i with
    | zero => exact hs
    | succ i => exact entsγ_cons.2 ⟨y, s.eraseIdx i, hy, entsγ_erase i hs, rfl⟩
theorem run_getMap {P : Program} {w : World} {b : Nat} {l : Array MapEntry} {cl : Nat} (h : w.heap[b]? = some (.map l cl)) : (getObj b).run P w = .ok (.map l cl) w := by simp [getObj, Sem.run, h]
theorem run_setMap {P : Program} {w : World} {b : Nat} {l : Array MapEntry} {cl : Nat} (h : w.heap[b]? = some (.map l cl)) (o : Obj) : (setObj b o).run P w = .ok () { w with heap := w.heap.setIfInBounds b o } := by simp [setObj, Sem.run, h]
section
variable {C : Cx} {P : Program} {T : Tr AV} {H : AH} {N : Nat} {ty : TypeId} {c : Kop} {dst : Option Tmp} {pos : String} {after : Array Edge} {guard : Option (Nat × Bool)} (hC : C.OK' P)
theorem mem_map {η : Env} {w : World} (hm : Mem η H w) {id : Nat} {es : List AEnt} {cl : Nat} {y : Value} (hob : Tr.look H id = some (.map es cl)) (hy : (AV.map id).γ η = some y) :
    ∃ l p, η.ρ id = some p ∧ p.2 = 0 ∧ y = .map (some p.1) ∧ entsγ η es = some l ∧ w.heap[p.1]? = some (.map l.toArray cl) := by
  obtain ⟨p, hp, ex⟩ := γ_map hy
  obtain ⟨q, hq, h0, l, hl, hh⟩ := hm.objs id _ hob
  rw [hp] at hq; cases hq
  exact ⟨l, p, hp, h0, ex, hl, hh⟩
/-- a map is written -/
theorem write_map {η : Env} {w : World} {H' : AH} (hm : Mem η H w) {id : Nat} {p : Nat × Nat} {es es' : List AEnt} {cl cl' : Nat} {l l' : List MapEntry} (hob : Tr.look H id = some (.map es cl)) (hp : η.ρ id = some p) (h0 : p.2 = 0) (hh : w.heap[p.1]? = some (.map l.toArray cl))
    (hl : entsγ η es' = some l') (hH : ∀ q, Tr.look H' q = if q = id then some (.map es' cl') else Tr.look H q) : Evo η H N w η H' N { w with heap := w.heap.setIfInBounds p.1 (.map l'.toArray cl') } :=
  Evo.write hm hob hp _ hH rfl ⟨h0, l', hl, setIB_same hh _⟩ (fun y e => by rw [hh] at e; cases e; rfl)
include hC
omit hC in
/-- an entry's place is written -/
theorem set_modify {l : List MapEntry} {j : Nat} {ye x : MapEntry} {f : MapEntry → MapEntry} (hye : l[j]? = some ye) (hx : f ye = x) : l.toArray.modify j f = (l.set j x).toArray := by
  apply Array.ext_getElem?
  intro q
  simp only [Array.getElem?_modify, List.getElem?_toArray, List.getElem?_set]
  by_cases hq : j = q
  · subst hq
    rw [if_pos rfl, if_pos rfl]
    have : j < l.length := (List.getElem?_eq_some_iff.1 hye).1
    rw [if_pos this]
    simp [hye, hx]
  · rw [if_neg hq, if_neg hq]
theorem mapUpdateA_spec {t : TypeId} {m key v : AV} {k : AH → Bool} (h : mapUpdateA C H t m key v k = true) : ∃ H', k H' = true ∧
    ∀ η w m' x y, Mem η H w → m.γ η = some m' → key.γ η = some x → v.γ η = some y → ∃ w', Evo η H N w η H' N w' ∧ (Instr.mapUpdate t m' x y).run P w = .ok () w' := by
  obtain ⟨d, hd, hund⟩ := under_spec hC.toOK h
  split at hd
  · rename_i kt et
    split at hd
    · rename_i id
      obtain ⟨es, cl, hob, hk⟩ := mapOf_spec hd
      obtain ⟨r, hr, hp, hchk, hf⟩ := findAny_spec (P := P) hC hk
      cases r with
      | some r =>
        obtain ⟨j, e⟩ := r
        obtain ⟨hej, hstay⟩ := hp j e rfl
        obtain ⟨hr, hstay⟩ := hstay _ hr
        obtain ⟨hset, hjl⟩ := setE_spec _ _ _ _ hr
        obtain ⟨H', hH', hlook⟩ := Tr.set_spec hset
        refine ⟨H', hH', fun η w m' x y hm hmγ hx hy => ?_⟩
        obtain ⟨l, p, hpp, h0, rfl, hl, hh⟩ := mem_map hm hob hmγ
        obtain ⟨ye, hye, hyeγ⟩ := entsγ_get hl hej
        obtain ⟨hek, hev, heb⟩ := entγ_parts hyeγ
        have hfk : (Instr.findKey kt x l.toArray.toList).run P w = .ok (some (j, (l.getD j ⟨undef, undef, 0⟩).val)) w := hf η w x l hm hx hl
        have hkey : ((l.toArray[j]?).map (·.key)).getD x = ye.key := by simp [hye]
        have hst := hstay η w x ye.key hx hek
        refine ⟨_, write_map (N := N) hm hob hpp h0 hh (entsγ_set (entγ_mk (e := ⟨key, v, e.born⟩) hx hy) j hl) hlook, ?_⟩
        simp only [Instr.mapUpdate, Sem.run_bind, run_under w hund, Result.andThen_ok, run_getMap hh, hchk η w x _ hx, hfk, hkey, hst, run_setMap hh]
        congr 4
        exact set_modify hye (by simp [heb])
      | none =>
        simp only [pushE_spec, fzNat_eq] at hr
        obtain ⟨H', hH', hlook⟩ := Tr.set_spec hr
        refine ⟨H', hH', fun η w m' x y hm hmγ hx hy => ?_⟩
        obtain ⟨l, p, hpp, h0, rfl, hl, hh⟩ := mem_map hm hob hmγ
        have hfk : (Instr.findKey kt x l.toArray.toList).run P w = .ok none w := hf η w x l hm hx hl
        refine ⟨_, write_map (N := N) hm hob hpp h0 hh (entsγ_append (entγ_mk (e := ⟨key, v, cl⟩) hx hy) hl) hlook, ?_⟩
        simp only [Instr.mapUpdate, Sem.run_bind, run_under w hund, Result.andThen_ok, run_getMap hh, hchk η w x _ hx, hfk, run_setMap hh]
        congr 4
        simp
    · cases hd
  · cases hd
theorem mapEntryA_spec {t : TypeId} {m key : AV} {k : AV → AH → Bool} (h : mapEntryA C H t m key k = true) : ∃ v H', k v H' = true ∧
    ∀ η w m' x, Mem η H w → m.γ η = some m' → key.γ η = some x → ∃ w' y, Evo η H N w η H' N w' ∧ v.γ η = some y ∧ (Instr.mapEntry t m' x).run P w = .ok y w' := by
  obtain ⟨d, hd, hund⟩ := under_spec hC.toOK h
  split at hd
  · rename_i kt et
    split at hd
    · rename_i id
      obtain ⟨es, cl, hob, hk⟩ := mapOf_spec hd
      obtain ⟨r, hr, hp, hchk, hf⟩ := findAny_spec (P := P) hC hk
      cases r with
      | some r =>
        obtain ⟨j, e⟩ := r
        obtain ⟨hej, hstay⟩ := hp j e rfl
        obtain ⟨hr, hstay⟩ := hstay _ hr
        obtain ⟨hset, hjl⟩ := setE_spec _ _ _ _ hr
        obtain ⟨H', hH', hlook⟩ := Tr.set_spec hset
        refine ⟨_, H', hH', fun η w m' x hm hmγ hx => ?_⟩
        obtain ⟨l, p, hpp, h0, rfl, hl, hh⟩ := mem_map hm hob hmγ
        obtain ⟨ye, hye, hyeγ⟩ := entsγ_get hl hej
        obtain ⟨hek, hev, heb⟩ := entγ_parts hyeγ
        have hg : (l.getD j ⟨undef, undef, 0⟩) = ye := by simp [List.getD, hye]
        have hfk : (Instr.findKey kt x l.toArray.toList).run P w = .ok (some (j, ye.val)) w := by
          have := hf η w x l hm hx hl
          simp only [hg] at this
          exact this
        have hkey : ((l.toArray[j]?).map (·.key)).getD x = ye.key := by simp [hye]
        have hbn : ((l.toArray[j]?).map (fun x => (x.born : Int))).getD 0 = (e.born : Int) := by simp [hye, heb]
        have hst := hstay η w x ye.key hx hek
        refine ⟨_, .tuple #[ye.val, .int .i64 (.ofNat e.born)], write_map (N := N) hm hob hpp h0 hh (entsγ_set (entγ_mk (e := ⟨key, e.val, e.born⟩) hx hev) j hl) hlook, ?_, ?_⟩
        · simp [AV.γ, γs, hev]
        · simp only [Instr.mapEntry, Sem.run_bind, run_under w hund, Result.andThen_ok, run_getMap hh, hchk η w x _ hx, hfk, hkey, hbn, hst, run_setMap hh, Sem.run_pure]
          have hmod : l.toArray.modify j (fun e => { e with key := x }) = (l.set j ⟨x, ye.val, e.born⟩).toArray := set_modify hye (by simp [heb])
          rw [hmod]
          rfl
      | none =>
        obtain ⟨z, zv, hz, hzγ, hzero⟩ := zero_spec hC.toOK hr
        simp only [pushE_spec, fzNat_eq] at hz
        obtain ⟨H', hH', hlook⟩ := Tr.set_spec hz
        refine ⟨_, H', hH', fun η w m' x hm hmγ hx => ?_⟩
        obtain ⟨l, p, hpp, h0, rfl, hl, hh⟩ := mem_map hm hob hmγ
        have hfk : (Instr.findKey kt x l.toArray.toList).run P w = .ok none w := hf η w x l hm hx hl
        refine ⟨_, .tuple #[zv, .int .i64 (.ofNat cl)], write_map (N := N) hm hob hpp h0 hh (entsγ_append (entγ_mk (e := ⟨key, z, cl⟩) hx (hzγ η)) hl) hlook, ?_, ?_⟩
        · simp [AV.γ, γs, hzγ η]
        · simp only [Instr.mapEntry, Sem.run_bind, run_under w hund, Result.andThen_ok, run_getMap hh, hchk η w x _ hx, hfk, run_zeroValue w hzero, run_setMap hh, Sem.run_pure]
          congr 4
          simp
    · cases hd
  · cases hd
omit hC in
theorem bornAt_spec : ∀ (es : List AEnt) (b i : Nat) (k : Nat → AEnt → Bool), bornAt es b i k = true → ∃ j e, k (i + j) e = true ∧ es[j]? = some e ∧ e.born = b ∧ ∀ q e', q < j → es[q]? = some e' → e'.born ≠ b
  | [], b, i, k, h => by cases h
  | e :: r, b, i, k, h => by
    simp only [bornAt] at h
    split at h
    · rename_i hb
      exact ⟨0, e, by simpa using h, rfl, Nat.eq_of_beq_eq_true hb, fun q _ hq => absurd hq (Nat.not_lt_zero _)⟩
    · rename_i hb
      obtain ⟨j, e', hk, he, hb', hlt⟩ := bornAt_spec r b (i + 1) k h
      refine ⟨j + 1, e', by rw [show i + (j + 1) = i + 1 + j from by omega]; exact hk, by simpa using he, hb', fun q e2 hq h2 => ?_⟩
      cases q with
      | zero => simp at h2; subst h2; exact Nat.ne_of_beq_eq_false hb
      | succ q => exact hlt q e2 (by omega) (by simpa using h2)
omit hC in
theorem entryStoreA_spec {t : TypeId} {m st v : AV} {k : AH → Bool} (h : entryStoreA H m st v k = true) : ∃ H', k H' = true ∧
    ∀ η w m' x y, Mem η H w → m.γ η = some m' → st.γ η = some x → v.γ η = some y → ∃ w', Evo η H N w η H' N w' ∧ (Instr.entryStore t m' x y).run P w = .ok () w' := by
  unfold entryStoreA at h
  split at h
  · rename_i id
    obtain ⟨es, cl, hob, hk⟩ := mapOf_spec h
    obtain ⟨ik, b, hk, hst⟩ := asNat_spec hk
    obtain ⟨j, e, hk, hej, hb, hlt⟩ := bornAt_spec _ _ _ _ hk
    simp only [Nat.zero_add] at hk
    obtain ⟨hset, hjl⟩ := setE_spec _ _ _ _ hk
    obtain ⟨H', hH', hlook⟩ := Tr.set_spec hset
    refine ⟨H', hH', fun η w m' x y hm hmγ hx hy => ?_⟩
    obtain ⟨l, p, hpp, h0, rfl, hl, hh⟩ := mem_map hm hob hmγ
    obtain ⟨ye, hye, hyeγ⟩ := entsγ_get hl hej
    obtain ⟨hek, hev, heb⟩ := entγ_parts hyeγ
    rw [hst η] at hx
    cases hx
    have hfi : l.toArray.findIdx? (fun e => (e.born : Int) == (b : Int)) = some j := by
      rw [List.findIdx?_toArray, List.findIdx?_eq_some_iff_getElem]
      refine ⟨(List.getElem?_eq_some_iff.1 hye).1, ?_, fun q hq => ?_⟩
      · have : l[j]'((List.getElem?_eq_some_iff.1 hye).1) = ye := by
          have := hye
          rw [List.getElem?_eq_getElem ((List.getElem?_eq_some_iff.1 hye).1)] at this
          exact Option.some.inj this
        rw [this, heb, hb]
        simp
      · have hql : q < l.length := Nat.lt_trans hq ((List.getElem?_eq_some_iff.1 hye).1)
        have hqe : q < es.length := by rw [← entsγ_length hl]; exact hql
        have h1 : es[q]? = some es[q] := List.getElem?_eq_getElem hqe
        obtain ⟨yq, hyq, hyqγ⟩ := entsγ_get hl h1
        obtain ⟨_, _, hqb⟩ := entγ_parts hyqγ
        have := hlt q _ hq h1
        have e2 : l[q] = yq := by
          rw [List.getElem?_eq_getElem hql] at hyq
          exact Option.some.inj hyq
        rw [e2, hqb]
        simp
        omega
    refine ⟨_, write_map (N := N) hm hob hpp h0 hh (entsγ_set (entγ_mk (e := ⟨e.key, v, e.born⟩) hek hy) j hl) hlook, ?_⟩
    simp only [Instr.entryStore, Sem.run_bind, run_getMap hh, Result.andThen_ok, asInt, asIntOf, Sem.run_pure, Sem.run_map, hfi]
    skip
    simp only [run_setMap hh]
    congr 4
    exact set_modify hye (by simp [heb])
  · cases h
theorem opMapUpdate_spec {t : TypeId} {m k x : Operand} (h : opMapUpdate t m k x C T H N ty c = true) : Goes P T H N (fun tmps => execOp (evt tmps) ⟨dst, .mapUpdate t m k x, ty, pos, after, guard⟩) c := by
  obtain ⟨a, ha, hm⟩ := ev_spec h
  obtain ⟨b, hb, hk⟩ := ev_spec ha
  obtain ⟨v, hv, hx⟩ := ev_spec hb
  obtain ⟨H', hH', hr⟩ := mapUpdateA_spec hC (N := N) hv
  exact Goes.skip (s := fun tmps => Instr.mapUpdate t (evt tmps m) (evt tmps k) (evt tmps x)) hH' ⟨Nat.le_refl _, fun η w nt tmps hmem hf hT => by
    obtain ⟨w', he, hr⟩ := hr η w _ _ _ hmem (hm η nt tmps hT) (hk η nt tmps hT) (hx η nt tmps hT)
    exact ⟨η, w', he, hr⟩⟩
theorem opInsert_spec {t : TypeId} {m k x : Operand} (h : opMapUpdate t m k x C T H N ty c = true) : Goes P T H N (fun tmps => execOp (evt tmps) ⟨dst, .insert t m k x, ty, pos, after, guard⟩) c := by
  obtain ⟨a, ha, hm⟩ := ev_spec h
  obtain ⟨b, hb, hk⟩ := ev_spec ha
  obtain ⟨v, hv, hx⟩ := ev_spec hb
  obtain ⟨H', hH', hr⟩ := mapUpdateA_spec hC (N := N) hv
  exact Goes.skip (s := fun tmps => Instr.mapUpdate t (evt tmps m) (evt tmps k) (evt tmps x)) hH' ⟨Nat.le_refl _, fun η w nt tmps hmem hf hT => by
    obtain ⟨w', he, hr⟩ := hr η w _ _ _ hmem (hm η nt tmps hT) (hk η nt tmps hT) (hx η nt tmps hT)
    exact ⟨η, w', he, hr⟩⟩
theorem opMapEntry_spec {t : TypeId} {m k : Operand} (h : opMapEntry t m k C T H N ty c = true) : Goes P T H N (fun tmps => execOp (evt tmps) ⟨dst, .mapEntry t m k, ty, pos, after, guard⟩) c := by
  obtain ⟨a, ha, hm⟩ := ev_spec h
  obtain ⟨b, hb, hk⟩ := ev_spec ha
  obtain ⟨v, H', hH', hr⟩ := mapEntryA_spec (P := P) hC (N := N) hb
  exact Goes.valE (s := fun tmps => Instr.mapEntry t (evt tmps m) (evt tmps k)) hH' ⟨Nat.le_refl _, fun η w nt tmps hmem hf hT => by
    obtain ⟨w', y, he, hy, hr⟩ := hr η w _ _ hmem (hm η nt tmps hT) (hk η nt tmps hT)
    exact ⟨η, w', y, he, hy, hr⟩⟩
omit hC in
theorem opEntryStore_spec {t : TypeId} {m st x : Operand} (h : opEntryStore t m st x C T H N ty c = true) : Goes P T H N (fun tmps => execOp (evt tmps) ⟨dst, .entryStore t m st x, ty, pos, after, guard⟩) c := by
  obtain ⟨a, ha, hm⟩ := ev_spec h
  obtain ⟨b, hb, hk⟩ := ev_spec ha
  obtain ⟨v, hv, hx⟩ := ev_spec hb
  obtain ⟨H', hH', hr⟩ := entryStoreA_spec (P := P) (t := t) (N := N) hv
  exact Goes.skip (s := fun tmps => Instr.entryStore t (evt tmps m) (evt tmps st) (evt tmps x)) hH' ⟨Nat.le_refl _, fun η w nt tmps hmem hf hT => by
    obtain ⟨w', he, hr⟩ := hr η w _ _ _ hmem (hm η nt tmps hT) (hk η nt tmps hT) (hx η nt tmps hT)
    exact ⟨η, w', he, hr⟩⟩
theorem deleteA_spec {t : TypeId} {us : List TypeId} {tr : TypeId} {m key : AV} {k : AH → Bool} (h : deleteA C H t m key k = true) : ∃ H', k H' = true ∧
    ∀ η w m' x, Mem η H w → m.γ η = some m' → key.γ η = some x → ∃ w', Evo η H N w η H' N w' ∧ (Builtin.delete_ (t :: us).toArray tr #[m', x]).run P w = .ok (.tuple #[]) w' := by
  obtain ⟨d, hd, hund⟩ := under_spec hC.toOK h
  split at hd
  · rename_i kt et
    split at hd
    · obtain ⟨r, hr, _, hchk, _⟩ := findAny_spec (P := P) hC hd
      refine ⟨H, hr, fun η w m' x hm hmγ hx => ⟨w, .refl hm, ?_⟩⟩
      have : m' = .map none := by simp [AV.γ] at hmγ; exact hmγ.symm
      subst this
      simp [Builtin.delete_, run_under w hund, hchk η w x _ hx]
    · rename_i id
      obtain ⟨es, cl, hob, hk⟩ := mapOf_spec hd
      obtain ⟨r, hr, hp, hchk, hf⟩ := findAny_spec (P := P) hC hk
      cases r with
      | some r =>
        obtain ⟨j, e⟩ := r
        obtain ⟨hset, hjl⟩ := delE_spec _ _ _ hr
        obtain ⟨H', hH', hlook⟩ := Tr.set_spec hset
        refine ⟨H', hH', fun η w m' x hm hmγ hx => ?_⟩
        obtain ⟨l, p, hpp, h0, rfl, hl, hh⟩ := mem_map hm hob hmγ
        have hfk : (Instr.findKey kt x l.toArray.toList).run P w = .ok (some (j, (l.getD j ⟨undef, undef, 0⟩).val)) w := hf η w x l hm hx hl
        refine ⟨_, write_map (N := N) hm hob hpp h0 hh (entsγ_erase j hl) hlook, ?_⟩
        have he : l.toArray.eraseIdxIfInBounds j = (l.eraseIdx j).toArray := by
          have : j < l.length := by rw [entsγ_length hl]; exact hjl
          simp [Array.eraseIdxIfInBounds, this]
        simp [Builtin.delete_, run_under w hund, run_getMap hh, hchk η w x _ hx, hfk, run_setMap hh, he]
      | none =>
        refine ⟨H, hr, fun η w m' x hm hmγ hx => ?_⟩
        obtain ⟨l, p, hpp, h0, rfl, hl, hh⟩ := mem_map hm hob hmγ
        have hfk : (Instr.findKey kt x l.toArray.toList).run P w = .ok none w := hf η w x l hm hx hl
        refine ⟨w, .refl hm, ?_⟩
        simp [Builtin.delete_, run_under w hund, run_getMap hh, hchk η w x _ hx, hfk, run_setMap hh, setIB_self hh]
    · cases hd
  · cases hd
end
end Go.Proofs.YthidihigidchgaaGreatDoor.Sy
