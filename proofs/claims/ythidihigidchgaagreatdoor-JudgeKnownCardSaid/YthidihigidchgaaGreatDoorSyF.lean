/- The runner is right at frames: what it takes to true returns true, nothing that was there turned: for every program whose tables the kernel has looked at. -/
import Derived.Test.YthidihigidchgaaGreatDoorSyE
import Derived.Laws.Sem
import Derived.Defers
set_option linter.unusedVariables false
set_option linter.unusedSimpArgs false

namespace Go.Proofs.YthidihigidchgaaGreatDoor.Sy
/-! Steps of a frame, in a round or not. -/
section
variable {P : Program} {fr : Frame} {cs : List Frame} {w : World} {k : List Item}
theorem eval_fr (fr : Frame) : fr.eval = evt fr.tmps := by funext x; cases x <;> rfl
theorem st_skip (hm : fr.mode = .run) (ht : fr.todo = .code .skip :: k) : step P (lone fr cs w) = .next (lone { fr with todo := k } cs w) :=
  step_lone_go (by simp [stepG, stepG.exec, hm, ht])
theorem st_label {l : Nat} (hm : fr.mode = .run) (ht : fr.todo = .code (.label l) :: k) : step P (lone fr cs w) = .next (lone { fr with todo := k } cs w) :=
  step_lone_go (by simp [stepG, stepG.exec, hm, ht])
theorem st_inBlock {l : Nat} (hm : fr.mode = .run) (ht : fr.todo = .inBlock l :: k) : step P (lone fr cs w) = .next (lone { fr with todo := k } cs w) :=
  step_lone_go (by simp [stepG, stepG.exec, hm, ht])
theorem st_inScope {b : Code} (hm : fr.mode = .run) (ht : fr.todo = .inScope b :: k) : step P (lone fr cs w) = .next (lone { fr with todo := k } cs w) :=
  step_lone_go (by simp [stepG, stepG.exec, hm, ht])
theorem st_seq {a b : Code} (hm : fr.mode = .run) (ht : fr.todo = .code (.seq a b) :: k) : step P (lone fr cs w) = .next (lone { fr with todo := .code a :: .code b :: k } cs w) :=
  step_lone_go (by simp [stepG, stepG.exec, hm, ht])
theorem st_cond {c : Operand} {x y : Code} {t : Bool} (hm : fr.mode = .run) (ht : fr.todo = .code (.cond c x y) :: k) (h : evt fr.tmps c = .bool t) :
    step P (lone fr cs w) = .next (lone { fr with todo := .code (if t then x else y) :: k } cs w) := by
  rw [← eval_fr] at h
  exact step_lone_go (by simp [stepG, stepG.exec, hm, ht, h])
theorem st_block {id : Nat} {c : Code} (hm : fr.mode = .run) (ht : fr.todo = .code (.block id c) :: k) : step P (lone fr cs w) = .next (lone { fr with todo := .code c :: .inBlock id :: k } cs w) :=
  step_lone_go (by simp [stepG, stepG.exec, hm, ht])
theorem st_loop {c : Code} (hm : fr.mode = .run) (ht : fr.todo = .code (.loop c) :: k) : step P (lone fr cs w) = .next (lone { fr with todo := .code c :: .inLoop c :: k } cs w) :=
  step_lone_go (by simp [stepG, stepG.exec, hm, ht])
theorem st_inLoop {c : Code} (hm : fr.mode = .run) (ht : fr.todo = .inLoop c :: k) : step P (lone fr cs w) = .next (lone { fr with todo := .code c :: .inLoop c :: k } cs w) :=
  step_lone_go (by simp [stepG, stepG.exec, hm, ht])
theorem st_scope {c : Code} (hm : fr.mode = .run) (ht : fr.todo = .code (.scope c) :: k) : step P (lone fr cs w) = .next (lone { fr with todo := .code c :: .inScope c :: k } cs w) :=
  step_lone_go (by simp [stepG, stepG.exec, hm, ht])
theorem st_exit {id : Nat} {k' : List Item} (hm : fr.mode = .run) (ht : fr.todo = .code (.exit id) :: k) (h : exitTo id k = some k') : step P (lone fr cs w) = .next (lone { fr with todo := k' } cs w) :=
  step_lone_go (by simp [stepG, stepG.exec, hm, ht, h])
theorem st_goto {l : Nat} {k' : List Item} (hm : fr.mode = .run) (ht : fr.todo = .code (.goto l) :: k) (h : gotoIn l k = some k') : step P (lone fr cs w) = .next (lone { fr with todo := k' } cs w) :=
  step_lone_go (by simp [stepG, stepG.exec, hm, ht, h])
theorem st_ret (hm : fr.mode = .run) (hr : fr.roundOf = none) (ht : fr.todo = .code .ret :: k) : step P (lone fr cs w) = .next (lone { fr with mode := .returning } cs w) :=
  step_lone_go (by simp [stepG, stepG.exec, hm, ht, hr])
theorem st_end (hm : fr.mode = .run) (hr : fr.roundOf = none) (ht : fr.todo = []) : step P (lone fr cs w) = .next (lone { fr with mode := .returning } cs w) :=
  step_lone_go (by simp [stepG, stepG.exec, hm, ht, hr])
theorem st_region {id : Nat} {ops : Array Oper} (hm : fr.mode = .run) (ht : fr.todo = .code (.region id ops false) :: k) : step P (lone fr cs w) = .next (lone { fr with todo := .inRegion ops (List.range ops.size) :: k } cs w) :=
  step_lone_go (by simp [stepG, stepG.exec, hm, ht])
theorem st_region_end {ops : Array Oper} (hm : fr.mode = .run) (ht : fr.todo = .inRegion ops [] :: k) : step P (lone fr cs w) = .next (lone { fr with todo := k } cs w) :=
  step_lone_go (by simp [stepG, stepG.exec, hm, ht])
theorem finish_op {ops : Array Oper} {i : Nat} {rest : List Nat} {o : Oper} (ho : ops[i]? = some o) (ht : fr.todo = .inRegion ops (i :: rest) :: k) (v : Value) :
    fr.finish v = { fr with tmps := (match o.dst with | some d => fr.tmps.setIfInBounds d v | none => fr.tmps), todo := .inRegion ops rest :: k } := by
  unfold Frame.finish
  rw [ht]
  cases hd : o.dst <;> simp [ho, hd]
theorem st_op_skip {ops : Array Oper} {i : Nat} {rest : List Nat} {o : Oper} (ho : ops[i]? = some o) (hm : fr.mode = .run) (ht : fr.todo = .inRegion ops (i :: rest) :: k)
    (hw : Region.wanted o (yielded ops fr.tmps) = false) : step P (lone fr cs w) = .next (lone (fr.finish undef) cs w) :=
  step_lone_go (by simp [stepG, stepG.exec, hm, ht, ho, hw])
/-- what a frame does -/
def semFr (fr : Frame) (o : Oper) : Sem Next := match fr.roundOf, o.op with
  | some l, .defer c => do Instr.deferInRound l (← resolve fr.eval c o.type); pure .skip
  | _, _ => execOp fr.eval o
theorem stepG_fr {ops : Array Oper} {i : Nat} {rest : List Nat} {o : Oper} (ho : ops[i]? = some o) (hm : fr.mode = .run) (ht : fr.todo = .inRegion ops (i :: rest) :: k)
    (hw : Region.wanted o (yielded ops fr.tmps) = true) :
    stepG P true { frame := fr, callers := cs, status := .running, dying := none } w = stepG.apply P true fr cs none (semFr fr o) w := by
  simp only [stepG, stepG.exec, hm, ht, ho, hw, Option.map_some, Option.getD_some, if_true, stepG.oper, Frame.oper?]
  unfold semFr
  split <;> simp_all
theorem apply_kind (ht : ∀ d r s k', fr.todo ≠ .call d true r s :: k') : (match fr.todo with | .call _ true _ _ :: _ => CallKind.wrapped | _ => .normal) = .normal := by
  split
  · rename_i h; exact absurd h (ht _ _ _ _)
  · rfl
section
variable {s : Sem Next} {w' : World}
theorem ap_value {v : Value} (h : s.run P w = .ok (.value v) w') : (stepG.apply P true fr cs none s w).bare = .go { frame := fr.finish v, callers := cs, status := .running, dying := none } w' := by
  simp [stepG.apply, h]
theorem ap_skip (h : s.run P w = .ok .skip w') : (stepG.apply P true fr cs none s w).bare = .go { frame := fr.finish undef, callers := cs, status := .running, dying := none } w' := by
  simp [stepG.apply, h]
theorem ap_defer {d : Deferred} (h : s.run P w = .ok (.defer d) w') : (stepG.apply P true fr cs none s w).bare = .go { frame := ({ fr with defers := d :: fr.defers } : Frame).finish undef, callers := cs, status := .running, dying := none } w' := by
  simp [stepG.apply, h]
theorem ap_enter {f : FuncId} {args : Array Value} (ht : ∀ d r s k', fr.todo ≠ .call d true r s :: k') (h : s.run P w = .ok (.enter f args) w') :
    (stepG.apply P true fr cs none s w).bare = .go { frame := Frame.enter P f args .normal, callers := fr :: cs, status := .running, dying := none } w' := by
  simp only [stepG.apply, Sem.runT_eq, if_true, h, GStep.bare_after]
  first
    | rfl
    | (rw [apply_kind ht]; rfl)
theorem ap_round {l : Nat} {f : FuncId} {tmps : Array Value} {a b : Code} (h : s.run P w = .ok (.round l f tmps a b) w') :
    (stepG.apply P true fr cs none s w).bare = .go { frame := Frame.round l f tmps a b .normal, callers := fr :: cs, status := .running, dying := none } w' := by
  simp [stepG.apply, h]
theorem ap_recover (hr : (match fr.roundOf with | some l => if P.follows .rangeFuncRecover then tryRecover fr cs else tryRecoverLoop l cs | none => tryRecover fr cs) = none) (h : s.run P w = .ok .recover w') :
    (stepG.apply P true fr cs none s w).bare = .go { frame := fr.finish .nilIface, callers := cs, status := .running, dying := none } w' := by
  cases hro : fr.roundOf with
  | none => rw [hro] at hr; simp only at hr; simp [stepG.apply, h, hro, hr]
  | some l =>
    rw [hro] at hr; simp only at hr
    simp only [stepG.apply, Sem.runT_eq, if_true, h, GStep.bare_after, hro, hr, GStep.bare_go]
theorem ap_recover_some {v : Value} {cs' : List Frame} (hro : fr.roundOf = none) (hr : tryRecover fr cs = some (v, cs')) (h : s.run P w = .ok .recover w') :
    (stepG.apply P true fr cs none s w).bare = .go { frame := fr.finish v, callers := cs', status := .running, dying := none } w' := by
  simp [stepG.apply, h, hro, hr]
theorem ap_panic {v : Value} (h : s.run P w = .halt (.panic v) w') : (stepG.apply P true fr cs none s w).bare = .go { frame := fr.raise [{ v, recovered := false }], callers := cs, status := .running, dying := none } w' := by
  simp [stepG.apply, h]
end
end
end Go.Proofs.YthidihigidchgaaGreatDoor.Sy

namespace Go.Proofs.YthidihigidchgaaGreatDoor.Sy
/-! What a frame is. -/
def itemγ (η : Env) : AItem → Option Item
  | .code c => some (.code c)
  | .inBlock i => some (.inBlock i)
  | .inLoop b => some (.inLoop b)
  | .inScope b => some (.inScope b)
  | .inRegion _ _ => none
  | .endRangeFunc l => (η.ρ l).map fun p => .endRangeFunc p.1
  | .beginRound => some .beginRound
def itemsγ (η : Env) : List AItem → Option (List Item)
  | [] => some []
  | x :: r => match itemγ η x, itemsγ η r with
    | some y, some l => some (y :: l)
    | _, _ => none
theorem itemsγ_cons {η : Env} {x : AItem} {r : List AItem} {l : List Item} : itemsγ η (x :: r) = some l ↔ ∃ y s, itemγ η x = some y ∧ itemsγ η r = some s ∧ l = y :: s := by
  simp only [itemsγ]
  constructor
  · intro h
    split at h
    · rename_i y z hy hz
      exact ⟨y, z, hy, hz, (Option.some.inj h).symm⟩
    · cases h
  · rintro ⟨x, s, hx, hs, rfl⟩
    rw [hx, hs]
theorem itemγ_mono {a b : Env} (h : a.le b) {x : AItem} {y : Item} (e : itemγ a x = some y) : itemγ b x = some y := by
  cases x with
  | endRangeFunc l =>
    simp only [itemγ, Option.map_eq_some_iff] at e ⊢
    obtain ⟨p, hp, rfl⟩ := e
    exact ⟨p, h.ρ l p hp, rfl⟩
  | _ => exact e
theorem itemsγ_mono {a b : Env} (h : a.le b) : ∀ {r : List AItem} {l : List Item}, itemsγ a r = some l → itemsγ b r = some l
  | [], l, e => e
  | x :: r, l, e => by
    obtain ⟨y, s, hy, hs, rfl⟩ := itemsγ_cons.1 e
    exact itemsγ_cons.2 ⟨y, s, itemγ_mono h hy, itemsγ_mono h hs, rfl⟩
/-- how a frame was called, and what may be recovered of its caller -/
def CallIs (η : Env) (rc : Option AV) (rcd : Bool) (kind : CallKind) (cs : List Frame) : Prop := match rc, rcd with
  | some v, false => kind = .deferred ∧ ∃ c rest y, cs = c :: rest ∧ v.γ η = some y ∧ c.mode = .panicking [{ v := y, recovered := false }]
  | none, true => kind = .deferred ∧ ∃ c rest y, cs = c :: rest ∧ c.mode = .panicking [{ v := y, recovered := true }]
  | none, false => kind = .normal ∨ (kind = .deferred ∧ ∃ c rest, cs = c :: rest ∧ ∀ ch, c.mode ≠ .panicking ch)
  | some _, true => False
theorem CallIs.mono {a b : Env} (h : a.le b) {rc : Option AV} {rcd : Bool} {kind : CallKind} {cs : List Frame} (e : CallIs a rc rcd kind cs) : CallIs b rc rcd kind cs := by
  cases rc <;> cases rcd
  · exact e
  · exact e
  · obtain ⟨h1, c, rest, y, h2, h3, h4⟩ := e
    exact ⟨h1, c, rest, y, h2, γ_mono h _ _ h3, h4⟩
  · exact e
/-- all of a frame but its place -/
structure FBase (η : Env) (M : MF) (T : Tr AV) (fr : Frame) (cs : List Frame) : Prop where
  fn : fr.fn = M.fn
  tmps : TRel η T M.nt fr.tmps
  round : match M.ro with | none => fr.roundOf = none | some l => fr.kind = .normal ∧ (∃ c rest, cs = c :: rest) ∧ ∃ p, η.ρ l = some p ∧ fr.roundOf = some p.1
  defers : defsγ η M.ds = some fr.defers
  kind : CallIs η M.rc M.rcd fr.kind cs
theorem FBase.mono {a b : Env} (h : a.le b) {M : MF} {T : Tr AV} {fr : Frame} {cs : List Frame} (e : FBase a M T fr cs) : FBase b M T fr cs where
  fn := e.fn
  tmps := e.tmps.mono h
  round := by
    have := e.round
    cases hro : M.ro with
    | none => rw [hro] at this; exact this
    | some l =>
      rw [hro] at this
      obtain ⟨h1, h2, p, hp, h3⟩ := this
      exact ⟨h1, h2, p, h.ρ l p hp, h3⟩
  defers := defsγ_mono h _ _ e.defers
  kind := e.kind.mono h
/-- in a round nothing is recovered -/
theorem FBase.inRound {η : Env} {M : MF} {T : Tr AV} {fr : Frame} {cs : List Frame} (h : FBase η M T fr cs) {l : Nat} (hro : M.ro = some l) : M.rc = none ∧ M.rcd = false := by
  have hr := h.round
  rw [hro] at hr
  have hk := h.kind
  rw [hr.1] at hk
  unfold CallIs at hk
  split at hk
  · exact absurd hk.1 (by simp)
  · exact absurd hk.1 (by simp)
  · rename_i e1 e2; exact ⟨e1, e2⟩
  · exact hk.elim
/-- a frame's place -/
def PosRel (η : Env) (M : MF) (fr : Frame) : Pos → Prop
  | .go todo => fr.mode = .run ∧ itemsγ η todo = some fr.todo
  | .unw => fr.mode = .returning ∧ M.ro = none
  | .pan v => (∃ y, v.γ η = some y ∧ fr.mode = .panicking [{ v := y, recovered := false }]) ∧ M.ro = none
def FRel (η : Env) (M : MF) (T : Tr AV) (pos : Pos) (fr : Frame) (cs : List Frame) : Prop :=
  FBase η M T fr cs ∧ PosRel η M fr pos
/-- in a region -/
def FReg (η : Env) (M : MF) (T : Tr AV) (oa : Array Oper) (i : Nat) (r : List AItem) (fr : Frame) (cs : List Frame) : Prop :=
  FBase η M T fr cs ∧ fr.mode = .run ∧ ∃ k, itemsγ η r = some k ∧ fr.todo = .inRegion oa (List.range' i (oa.size - i)) :: k
/-- what stays of a frame -/
structure Same (fr fr' : Frame) : Prop where
  fn : fr'.fn = fr.fn
  kind : fr'.kind = fr.kind
  round : fr'.roundOf = fr.roundOf
theorem Same.refl (fr : Frame) : Same fr fr := ⟨rfl, rfl, rfl⟩
theorem Same.trans {a b c : Frame} (h : Same a b) (h' : Same b c) : Same a c := ⟨h'.fn.trans h.fn, h'.kind.trans h.kind, h'.round.trans h.round⟩
/-- the caller's panic is recovered, or not -/
def Turn (kind : CallKind) (cs cs' : List Frame) : Prop := cs' = cs ∨ (kind = .deferred ∧ ∃ c rest y, cs = c :: rest ∧ c.mode = .panicking [{ v := y, recovered := false }] ∧ cs' = { c with mode := .panicking [{ v := y, recovered := true }] } :: rest)
theorem Turn.refl (kind : CallKind) (cs : List Frame) : Turn kind cs cs := .inl rfl
theorem Turn.trans {kind : CallKind} {a b c : List Frame} (h : Turn kind a b) (h' : Turn kind b c) : Turn kind a c := by
  rcases h with rfl | ⟨hk, x, rest, y, rfl, hm, rfl⟩
  · exact h'
  · rcases h' with rfl | ⟨_, x', rest', y', e, hm', _⟩
    · exact .inr ⟨hk, x, rest, y, rfl, hm, rfl⟩
    · cases e
      simp at hm'
theorem Turn.normal {kind : CallKind} {cs cs' : List Frame} (h : Turn kind cs cs') (hk : kind = .normal) : cs' = cs := by
  rcases h with rfl | ⟨h, _⟩
  · rfl
  · rw [hk] at h; cases h
theorem Turn.calm {kind : CallKind} {c : Frame} {rest cs' : List Frame} (h : Turn kind (c :: rest) cs') (hm : ∀ ch, c.mode ≠ .panicking ch) : cs' = c :: rest := by
  rcases h with rfl | ⟨_, x, rest', y, e, hm', _⟩
  · rfl
  · cases e; exact absurd hm' (hm _)
/-- was the caller's panic recovered? -/
def Fin (b : Bool) (kind : CallKind) (cs : List Frame) : Prop := match b with
  | true => ∃ c rest y, cs = c :: rest ∧ c.mode = .panicking [{ v := y, recovered := true }]
  | false => kind = .normal ∨ ∃ c rest, cs = c :: rest ∧ ∀ y, c.mode ≠ .panicking [{ v := y, recovered := true }]
theorem CallIs.fin {η : Env} {rc : Option AV} {rcd : Bool} {kind : CallKind} {cs : List Frame} (h : CallIs η rc rcd kind cs) : Fin rcd kind cs := by
  cases rcd with
  | true =>
    cases rc with
    | none => obtain ⟨_, c, rest, y, h1, h2⟩ := h; exact ⟨c, rest, y, h1, h2⟩
    | some v => exact h.elim
  | false =>
    cases rc with
    | none =>
      rcases h with h | ⟨_, c, rest, h1, h2⟩
      · exact .inl h
      · exact .inr ⟨c, rest, h1, fun y => h2 _⟩
    | some v =>
      obtain ⟨_, c, rest, y, h1, _, h2⟩ := h
      exact .inr ⟨c, rest, h1, fun z e => by rw [h2] at e; simp at e⟩
/-- what comes out of a frame -/
def Out (P : Program) (η : Env) (fr fr' : Frame) (w : World) : AEnd → Prop
  | .ret v => ∃ y fn, v.γ η = some y ∧ fr'.mode = .returning ∧ P.funcs[fr.fn]? = some fn ∧ (results fn fr'.tmps).run P w = .ok y w
  | .pan v => ∃ y fn, v.γ η = some y ∧ fr'.mode = .panicking [{ v := y, recovered := false }] ∧ P.funcs[fr.fn]? = some fn
/-- how a frame ends -/
def Ends (P : Program) (fr : Frame) (cs : List Frame) (e : AEnd) (b : Bool) (η : Env) (w w' : World) : Prop := match fr.roundOf with
  | some _ => ∃ c rest v y, Turn fr.kind cs (c :: rest) ∧ e = .ret v ∧ b = false ∧ v.γ η = some y ∧ Steps P (lone fr cs w) (lone (c.finish y) rest w')
  | none => ∃ fr' cs', Steps P (lone fr cs w) (lone fr' cs' w') ∧ Turn fr.kind cs cs' ∧ fr'.fn = fr.fn ∧ fr'.kind = fr.kind ∧ fr'.defers = [] ∧ Fin b fr.kind cs' ∧ Out P η fr fr' w' e
theorem Ends.of_steps {P : Program} {fr fr1 : Frame} {cs cs1 : List Frame} {e : AEnd} {b : Bool} {η : Env} {w w1 w' : World} (h : Steps P (lone fr cs w) (lone fr1 cs1 w1)) (hs : Same fr fr1) (ht : Turn fr.kind cs cs1) (he : Ends P fr1 cs1 e b η w1 w') : Ends P fr cs e b η w w' := by
  unfold Ends at *
  rw [hs.round, hs.kind] at he
  cases hr : fr.roundOf with
  | some l =>
    rw [hr] at he
    obtain ⟨c, rest, v, y, hc, h1, h2, h3, hst⟩ := he
    exact ⟨c, rest, v, y, ht.trans hc, h1, h2, h3, h.trans hst⟩
  | none =>
    rw [hr] at he
    obtain ⟨fr', cs', hst, hc, h1, h2, h3, h4, h5⟩ := he
    refine ⟨fr', cs', h.trans hst, ht.trans hc, h1.trans hs.fn, h2, h3, h4, ?_⟩
    cases e with
    | ret v => obtain ⟨y, fn, a1, a2, a3, a4⟩ := h5; exact ⟨y, fn, a1, a2, by rw [← hs.fn]; exact a3, a4⟩
    | pan v => obtain ⟨y, fn, a1, a2, a3⟩ := h5; exact ⟨y, fn, a1, a2, by rw [← hs.fn]; exact a3⟩
/-- from a kind of frame on -/
def Goes1 (P : Program) (R : Env → Frame → List Frame → Prop) (H : AH) (N : Nat) (e : AEnd) (b : Bool) (H' : AH) (N' : Nat) : Prop :=
  N ≤ N' ∧ ∀ η w fr cs, Mem η H w → Fresh η N N' → R η fr cs → ∃ η' w', Evo η H N w η' H' N' w' ∧ Ends P fr cs e b η' w w'
/-- what is asked of who goes on -/
def Ok (P : Program) (R : Env → Frame → List Frame → Prop) (H : AH) (N : Nat) (k : Kend) : Prop := ∃ e b H' N', k e b H' N' = true ∧ Goes1 P R H N e b H' N'
/-- one kind of frame becomes another -/
def Moves (P : Program) (R : Env → Frame → List Frame → Prop) (H : AH) (N : Nat) (R1 : Env → Frame → List Frame → Prop) (H1 : AH) (N1 : Nat) : Prop :=
  N ≤ N1 ∧ ∀ η w fr cs, Mem η H w → Fresh η N N1 → R η fr cs → ∃ η1 w1 fr1 cs1, Evo η H N w η1 H1 N1 w1 ∧ Steps P (lone fr cs w) (lone fr1 cs1 w1) ∧ R1 η1 fr1 cs1 ∧ Same fr fr1 ∧ Turn fr.kind cs cs1
theorem Moves.goes {P : Program} {R R1 : Env → Frame → List Frame → Prop} {H H1 H' : AH} {N N1 N' : Nat} {e : AEnd} {b : Bool} (h : Moves P R H N R1 H1 N1) (g : Goes1 P R1 H1 N1 e b H' N') : Goes1 P R H N e b H' N' :=
  ⟨Nat.le_trans h.1 g.1, fun η w fr cs hm hf hr => by
    obtain ⟨η1, w1, fr1, cs1, he, hst, hr1, hs, ht⟩ := h.2 η w fr cs hm (hf.sub (Nat.le_refl _) g.1) hr
    obtain ⟨η', w', he', hend⟩ := g.2 η1 w1 fr1 cs1 he.mem (he.fresh hf) hr1
    exact ⟨η', w', he.trans he', hend.of_steps hst hs ht⟩⟩
theorem Moves.ok {P : Program} {R R1 : Env → Frame → List Frame → Prop} {H H1 : AH} {N N1 : Nat} {k : Kend} (h : Moves P R H N R1 H1 N1) (g : Ok P R1 H1 N1 k) : Ok P R H N k :=
  let ⟨e, b, H', N', hk, hg⟩ := g; ⟨e, b, H', N', hk, h.goes hg⟩
/-- a step that leaves the memory alone -/
theorem Moves.step {P : Program} {R R1 : Env → Frame → List Frame → Prop} {H : AH} {N : Nat} (h : ∀ η w fr cs, Mem η H w → R η fr cs → ∃ fr1, step P (lone fr cs w) = .next (lone fr1 cs w) ∧ R1 η fr1 cs ∧ Same fr fr1) : Moves P R H N R1 H N :=
  ⟨Nat.le_refl _, fun η w fr cs hm _ hr => by
    obtain ⟨fr1, hst, hr1, hs⟩ := h η w fr cs hm hr
    exact ⟨η, w, fr1, cs, .refl hm, .one hst, hr1, hs, .refl _ cs⟩⟩
/-- what is asked of a runner of frames -/
def RunOK (P : Program) (self : Krun) : Prop := ∀ M T pos H N, self M T pos H N = true → Ok P (fun η fr cs => FRel η M T pos fr cs) H N M.k
/-- a frame goes on at another place -/
theorem FBase.todo {η : Env} {M : MF} {T : Tr AV} {fr : Frame} {cs : List Frame} (h : FBase η M T fr cs) (k : List Item) : FBase η M T { fr with todo := k } cs :=
  ⟨h.fn, h.tmps, h.round, h.defers, h.kind⟩
theorem FBase.mode {η : Env} {M : MF} {T : Tr AV} {fr : Frame} {cs : List Frame} (h : FBase η M T fr cs) (m : FrameMode) : FBase η M T { fr with mode := m } cs :=
  ⟨h.fn, h.tmps, h.round, h.defers, h.kind⟩
section
variable {P : Program} {self : Krun} (hself : RunOK P self) {M : MF} {T : Tr AV} {H : AH} {N : Nat} {r r1 : List AItem} {x : AItem}
include hself
/-- steps of control: the first item gives way to others -/
theorem ctl_spec (hk : self M T (.go r1) H N = true)
    (hst : ∀ η w fr cs k y, Mem η H w → FBase η M T fr cs → fr.mode = .run → itemγ η x = some y → itemsγ η r = some k → fr.todo = y :: k → ∃ k1, itemsγ η r1 = some k1 ∧ step P (lone fr cs w) = .next (lone { fr with todo := k1 } cs w)) :
    Ok P (fun η fr cs => FRel η M T (.go (x :: r)) fr cs) H N M.k := by
  refine (Moves.step fun η w fr cs hm hr => ?_).ok (hself M T _ H N hk)
  obtain ⟨hb, hmode, htodo⟩ := hr
  obtain ⟨y, k, hy, hkk, e⟩ := itemsγ_cons.1 htodo
  obtain ⟨k1, hk1, hs⟩ := hst η w fr cs k y hm hb hmode hy hkk e
  exact ⟨_, hs, ⟨hb.todo k1, hmode, hk1⟩, ⟨rfl, rfl, rfl⟩⟩
end
/-! Places of jumps. -/
theorem exitToA_spec {id : Nat} {c : List AItem → Bool} {no : Bool} : ∀ (todo : List AItem), exitToA id todo c no = true → (∃ r, c r = true ∧ ∀ (η : Env) l, itemsγ η todo = some l → ∃ k, itemsγ η r = some k ∧ exitTo id l = some k) ∨ (no = true ∧ ∀ (η : Env) l, itemsγ η todo = some l → exitTo id l = none)
  | [], h => .inr ⟨h, fun η l e => by cases e; rfl⟩
  | x :: r, h => by
    have other : (∀ j, x ≠ .inBlock j) → exitToA id r c no = true → (∃ r', c r' = true ∧ ∀ (η : Env) l, itemsγ η (x :: r) = some l → ∃ k, itemsγ η r' = some k ∧ exitTo id l = some k) ∨ (no = true ∧ ∀ (η : Env) l, itemsγ η (x :: r) = some l → exitTo id l = none) := by
      intro hx h
      have key : ∀ (η : Env) l, itemsγ η (x :: r) = some l → ∃ s, itemsγ η r = some s ∧ exitTo id l = exitTo id s := fun η l e => by
        obtain ⟨y, s, hy, hs, rfl⟩ := itemsγ_cons.1 e
        refine ⟨s, hs, ?_⟩
        cases x with
        | inBlock j => exact absurd rfl (hx j)
        | endRangeFunc l =>
          simp only [itemγ, Option.map_eq_some_iff] at hy
          obtain ⟨p, _, rfl⟩ := hy
          rfl
        | inRegion _ _ => cases hy
        | _ => all_goals (simp only [itemγ, Option.some.injEq] at hy; subst hy; rfl)
      rcases exitToA_spec r h with ⟨r', hc, hr⟩ | ⟨hn, hr⟩
      · refine .inl ⟨r', hc, fun η l e => ?_⟩
        obtain ⟨s, hs, he⟩ := key η l e
        obtain ⟨k, hk, hx⟩ := hr η s hs
        exact ⟨k, hk, he.trans hx⟩
      · refine .inr ⟨hn, fun η l e => ?_⟩
        obtain ⟨s, hs, he⟩ := key η l e
        exact he.trans (hr η s hs)
    cases x with
    | inBlock j =>
      simp only [exitToA] at h
      split at h
      · rename_i hj
        have hj := Nat.eq_of_beq_eq_true hj
        refine .inl ⟨r, h, fun η l e => ?_⟩
        obtain ⟨y, s, hy, hs, rfl⟩ := itemsγ_cons.1 e
        simp only [itemγ, Option.some.injEq] at hy
        subst hy
        exact ⟨s, hs, by simp [exitTo, hj]⟩
      · rename_i hj
        have hj := Nat.ne_of_beq_eq_false hj
        have key : ∀ (η : Env) l, itemsγ η (.inBlock j :: r) = some l → ∃ s, itemsγ η r = some s ∧ exitTo id l = exitTo id s := fun η l e => by
          obtain ⟨y, s, hy, hs, rfl⟩ := itemsγ_cons.1 e
          simp only [itemγ, Option.some.injEq] at hy
          subst hy
          exact ⟨s, hs, by simp [exitTo, hj]⟩
        rcases exitToA_spec r h with ⟨r', hc, hr⟩ | ⟨hn, hr⟩
        · refine .inl ⟨r', hc, fun η l e => ?_⟩
          obtain ⟨s, hs, he⟩ := key η l e
          obtain ⟨k, hk, hx⟩ := hr η s hs
          exact ⟨k, hk, he.trans hx⟩
        · refine .inr ⟨hn, fun η l e => ?_⟩
          obtain ⟨s, hs, he⟩ := key η l e
          exact he.trans (hr η s hs)
    | code c => exact other (fun j e => by cases e) h
    | inLoop c => exact other (fun j e => by cases e) h
    | inScope c => exact other (fun j e => by cases e) h
    | inRegion a b => exact other (fun j e => by cases e) h
    | endRangeFunc l => exact other (fun j e => by cases e) h
    | beginRound => exact other (fun j e => by cases e) h
theorem gotoInA_spec {id : Nat} {c : List AItem → Bool} {no : Bool} : ∀ (todo : List AItem), gotoInA id todo c no = true → (∃ r, c r = true ∧ ∀ (η : Env) l, itemsγ η todo = some l → ∃ k, itemsγ η r = some k ∧ gotoIn id l = some k) ∨ (no = true ∧ ∀ (η : Env) l, itemsγ η todo = some l → gotoIn id l = none)
  | [], h => .inr ⟨h, fun η l e => by cases e; rfl⟩
  | x :: r, h => by
    have step : ∀ (hk : ∀ (η : Env) l, itemsγ η (x :: r) = some l → ∃ s, itemsγ η r = some s ∧ gotoIn id l = gotoIn id s), gotoInA id r c no = true → (∃ r', c r' = true ∧ ∀ (η : Env) l, itemsγ η (x :: r) = some l → ∃ k, itemsγ η r' = some k ∧ gotoIn id l = some k) ∨ (no = true ∧ ∀ (η : Env) l, itemsγ η (x :: r) = some l → gotoIn id l = none) := by
      intro key h
      rcases gotoInA_spec r h with ⟨r', hc, hr⟩ | ⟨hn, hr⟩
      · refine .inl ⟨r', hc, fun η l e => ?_⟩
        obtain ⟨s, hs, he⟩ := key η l e
        obtain ⟨k, hk, hx⟩ := hr η s hs
        exact ⟨k, hk, he.trans hx⟩
      · refine .inr ⟨hn, fun η l e => ?_⟩
        obtain ⟨s, hs, he⟩ := key η l e
        exact he.trans (hr η s hs)
    have other : (∀ b, x ≠ .inScope b) → ∀ (η : Env) l, itemsγ η (x :: r) = some l → ∃ s, itemsγ η r = some s ∧ gotoIn id l = gotoIn id s := fun hx η l e => by
      obtain ⟨y, s, hy, hs, rfl⟩ := itemsγ_cons.1 e
      refine ⟨s, hs, ?_⟩
      cases x with
      | inScope b => exact absurd rfl (hx b)
      | endRangeFunc l =>
        simp only [itemγ, Option.map_eq_some_iff] at hy
        obtain ⟨p, _, rfl⟩ := hy
        rfl
      | inRegion _ _ => cases hy
      | _ => all_goals (simp only [itemγ, Option.some.injEq] at hy; subst hy; rfl)
    cases x with
    | inScope b =>
      simp only [gotoInA] at h
      split at h
      · rename_i rest hb
        refine .inl ⟨_, h, fun η l e => ?_⟩
        obtain ⟨y, s, hy, hs, rfl⟩ := itemsγ_cons.1 e
        simp only [itemγ, Option.some.injEq] at hy
        subst hy
        exact ⟨.code rest :: .inScope b :: s, itemsγ_cons.2 ⟨_, _, rfl, itemsγ_cons.2 ⟨_, _, rfl, hs, rfl⟩, rfl⟩, by simp [gotoIn, hb]⟩
      · rename_i hb
        refine step (fun η l e => ?_) h
        obtain ⟨y, s, hy, hs, rfl⟩ := itemsγ_cons.1 e
        simp only [itemγ, Option.some.injEq] at hy
        subst hy
        exact ⟨s, hs, by simp [gotoIn, hb]⟩
    | code c => exact step (other fun j e => by cases e) h
    | inLoop c => exact step (other fun j e => by cases e) h
    | inBlock c => exact step (other fun j e => by cases e) h
    | inRegion a b => exact step (other fun j e => by cases e) h
    | endRangeFunc l => exact step (other fun j e => by cases e) h
    | beginRound => exact step (other fun j e => by cases e) h
end Go.Proofs.YthidihigidchgaaGreatDoor.Sy

namespace Go.Proofs.YthidihigidchgaaGreatDoor.Sy
/-! Loops over functions; calls. -/
theorem run_getLoop {P : Program} {w : World} {b : Nat} {x : Loop} (h : w.heap[b]? = some (.loop x)) : (Instr.getLoop b).run P w = .ok x w := by simp [Instr.getLoop, getObj, Sem.run, h, Result.andThen]
theorem run_setLoop {P : Program} {w : World} {b : Nat} {x : Loop} (h : w.heap[b]? = some (.loop x)) (o : Obj) : (setObj b o).run P w = .ok () { w with heap := w.heap.setIfInBounds b o } := by simp [setObj, Sem.run, h]
theorem loopOf_spec {H : AH} {id : Nat} {k : ALoop → Bool} (h : AH.loopOf H id k = true) : ∃ l, Tr.look H id = some (.loop l) ∧ k l = true := by
  obtain ⟨o, ho, hk⟩ := Tr.get_spec (show Tr.get H id (fun o => match o with | .loop l => k l | _ => false) = true from h)
  cases o with
  | loop l => exact ⟨l, ho, hk⟩
  | _ => cases hk
theorem mem_loop {η : Env} {H : AH} {w : World} (hm : Mem η H w) {id : Nat} {l : ALoop} (h : Tr.look H id = some (.loop l)) : ∃ p x, η.ρ id = some p ∧ p.2 = 0 ∧ loopγ η l x ∧ w.heap[p.1]? = some (.loop x) := by
  obtain ⟨p, hp, h0, x, hx, hh⟩ := hm.objs id _ h
  exact ⟨p, x, hp, h0, hx, hh⟩
theorem write_loop {η : Env} {H H' : AH} {N : Nat} {w : World} (hm : Mem η H w) {id : Nat} {p : Nat × Nat} {l l' : ALoop} {x x' : Loop} (h : Tr.look H id = some (.loop l)) (hp : η.ρ id = some p) (h0 : p.2 = 0) (hh : w.heap[p.1]? = some (.loop x))
    (hl : loopγ η l' x') (hH : ∀ q, Tr.look H' q = if q = id then some (.loop l') else Tr.look H q) : Evo η H N w η H' N { w with heap := w.heap.setIfInBounds p.1 (.loop x') } :=
  Evo.write hm h hp _ hH rfl ⟨h0, x', hl, setIB_same hh _⟩ (fun y e => by rw [hh] at e; cases e; rfl)
def Entered (P : Program) (f : FuncId) (args : List AV) (rc : Option AV) (η : Env) (fr : Frame) (cs : List Frame) : Prop := ∃ ys kind, γs η args = some ys ∧ CallIs η rc false kind cs ∧ fr = Frame.enter P f ys.toArray kind
def EnteredN (P : Program) (f : FuncId) (args : List AV) (η : Env) (fr : Frame) (_ : List Frame) : Prop := ∃ ys, γs η args = some ys ∧ fr = Frame.enter P f ys.toArray .normal
/-- what is asked of functions whose answer is known -/
def KnownOK (C : Cx) (P : Program) : Prop := ∀ f e, Tr.look C.kns f = some e → ∀ args H N k no, knownA C e args H N k no = true → no = true ∨ ∃ v H' N', k v H' N' = true ∧ N ≤ N' ∧
  ∀ η w ys, Mem η H w → Fresh η N N' → γs η args = some ys → Calls P f ys.toArray w fun e w' => ∃ η' y, e = .returned y ∧ v.γ η' = some y ∧ Evo η H N w η' H' N' w'
section
variable {C : Cx} {P : Program} (hC : C.OKc P)
include hC
theorem enterA_spec {f : FuncId} {args : List AV} {k : FuncId → Nat → Tr AV → Code → Bool} (h : enterA C f args k = true) : ∃ fn b T', k f fn.ntmps T' b = true ∧ P.funcs[f]? = some fn ∧ fn.body = some b ∧
    ∀ η ys, γs η args = some ys → TRel η T' fn.ntmps (ys.toArray ++ Array.replicate (fn.ntmps - ys.length) undef) := by
  obtain ⟨fn, hfn, h⟩ := Tr.get_spec (show Tr.get C.fns f (fun fn => Option.rec (motive := fun _ => Bool) false (enterB args f fn k) fn.body) = true from h)
  have hf := hC.fn f fn hfn
  cases hb : fn.body with
  | none => rw [hb] at h; cases h
  | some b =>
    rw [hb] at h
    have h : lenL args 0 (fun n => Bool.rec (motive := fun _ => Bool) false (Tr.ofList args 0 .e fun T => fzNat fn.ntmps fun nt => k f nt T b) (Nat.ble n fn.ntmps)) = true := h
    rw [lenL_eq] at h
    cases hn : Nat.ble (0 + args.length) fn.ntmps with
    | false => rw [hn] at h; cases h
    | true =>
      rw [hn] at h
      have hn := Nat.le_of_ble_eq_true hn
      obtain ⟨T', hk, hT⟩ := Tr.ofList_spec _ _ _ _ (show Tr.ofList args 0 .e (fun T => fzNat fn.ntmps fun nt => k f nt T b) = true from h)
      rw [fzNat_eq] at hk
      refine ⟨fn, b, T', hk, hf, hb, fun η ys hy => ⟨by have := γs_length hy; simp; omega, fun i v e => ?_⟩⟩
      rw [hT] at e
      split at e
      · rename_i hi
        obtain ⟨y, hyi, hv⟩ := γs_get hy (show args[i]? = some v by simpa using e)
        refine ⟨y, hv, ?_⟩
        have := get_lt hyi
        rw [Array.getElem?_append_left (by simpa using this)]
        simpa using hyi
      · rw [Tr.look_e] at e; cases e
variable {self : Krun} (hself : RunOK P self)
include hself
/-- a function is entered, and comes back -/
theorem callGoes {f : FuncId} {args : List AV} {rc : Option AV} {kk : Kend} {H : AH} {N : Nat} (h : enterA C f args (frameOf rc kk self H N) = true) : Ok P (Entered P f args rc) H N kk := by
  obtain ⟨fn, b, T', hk, hf, hb, hT⟩ := enterA_spec hC h
  obtain ⟨e, bb, H', N', hv, hle, hg⟩ := hself ⟨f, fn.ntmps, none, [], rc, false, kk⟩ T' (.go [.code b]) H N hk
  refine ⟨e, bb, H', N', hv, hle, fun η w fr cs hm hfr he => hg η w fr cs hm hfr ?_⟩
  obtain ⟨ys, kind, hy, hkind, rfl⟩ := he
  refine ⟨⟨rfl, ?_, rfl, rfl, hkind⟩, rfl, ?_⟩
  · have := hT η ys hy
    simpa [Frame.enter, hf] using this
  · simp [itemsγ, itemγ, Frame.enter, hf, hb]
/-- a call, as calls are made -/
theorem callKGoes (hkn : KnownOK C P) {f : FuncId} {args : List AV} {kk : Kend} {H : AH} {N : Nat} (h : callK C self f args kk H N = true) : Ok P (EnteredN P f args) H N kk := by
  have plain : enterA C f args (frameOf none kk self H N) = true → Ok P (EnteredN P f args) H N kk := fun h => by
    obtain ⟨e, b, H', N', hk, hle, hg⟩ := callGoes hC hself h
    refine ⟨e, b, H', N', hk, hle, fun η w fr cs hm hf he => hg η w fr cs hm hf ?_⟩
    obtain ⟨ys, hy, rfl⟩ := he
    exact ⟨ys, .normal, hy, .inl rfl, rfl⟩
  unfold callK at h
  split at h
  · obtain ⟨e, he, h⟩ := Tr.get_spec h
    rcases hkn f e he args H N _ _ h with h | ⟨v, H', N', hk, hle, hcall⟩
    · exact plain h
    · refine ⟨.ret v, false, H', N', hk, hle, fun η w fr cs hm hf hen => ?_⟩
      obtain ⟨ys, hy, rfl⟩ := hen
      obtain ⟨e, w', fr', ⟨η', y, rfl, hyv, hevo⟩, hst, hfn, h1, h2, h3, fn, h4, h5⟩ := hcall η w ys hm hf hy cs
      refine ⟨η', w', hevo, ?_⟩
      show ∃ fr' cs', _
      refine ⟨fr', cs, hst, .refl _ cs, hfn, h3, h2, .inl rfl, y, fn, hyv, h1, ?_, h5⟩
      rw [← h4, hfn]; rfl
  · exact plain h
omit hC hself in
theorem enter_round {f : FuncId} {args : Array Value} {kind : CallKind} : (Frame.enter P f args kind).roundOf = none := rfl
omit hC hself in
theorem retOnly_ok {kk : AV → AH → Nat → Bool} {e : AEnd} {b : Bool} {H : AH} {N : Nat} (h : retOnly kk e b H N = true) : ∃ v, e = .ret v ∧ b = false ∧ kk v H N = true := by
  cases e with
  | ret v => cases b with
    | false => exact ⟨v, rfl, rfl, h⟩
    | true => cases h
  | pan v => cases h
theorem callIn_ok (hkn : KnownOK C P) : CallsOK P (callIn C self) := fun f args K N kk h => by
  obtain ⟨e, b, H', N', hv, hle, hg⟩ := callKGoes hC hself hkn (show callK C self f args (retOnly kk) K N = true from h)
  obtain ⟨v, rfl, rfl, hv⟩ := retOnly_ok hv
  refine ⟨v, H', N', hv, hle, fun η w ys hm hf hy cs => ?_⟩
  obtain ⟨η', w', he, hend⟩ := hg η w _ cs hm hf ⟨ys, hy, rfl⟩
  obtain ⟨fr', cs', hst, ht, h1, h2, h3, h4, y, fn, hyv, h5, h6, h7⟩ := hend
  have ht : cs' = cs := ht.normal rfl
  subst ht
  exact ⟨.returned y, w', fr', ⟨η', y, rfl, hyv, he⟩, hst, h1, h5, h3, h2, fn, by rw [h1]; exact h6, h7⟩
omit hC hself in
/-- a call from a frame -/
theorem call_back {f : FuncId} {args : List AV} {H : AH} {N : Nat} {v : AV} {b : Bool} {H' : AH} {N' : Nat} (hg : Goes1 P (EnteredN P f args) H N (.ret v) b H' N') {η : Env} {w : World} (hm : Mem η H w) (hf : Fresh η N N') {ys : List Value} (hy : γs η args = some ys)
    (fr : Frame) (cs : List Frame) : ∃ η' w' y, Evo η H N w η' H' N' w' ∧ v.γ η' = some y ∧ Steps P (lone (Frame.enter P f ys.toArray .normal) (fr :: cs) w) (lone (fr.finish y) cs w') := by
  obtain ⟨η', w', he, hend⟩ := hg.2 η w _ (fr :: cs) hm hf ⟨ys, hy, rfl⟩
  obtain ⟨fr', cs', hst, ht, h1, h2, h3, h4, y, fn, hyv, h5, h6, h7⟩ := hend
  have ht := ht.normal rfl
  subst ht
  exact ⟨η', w', y, he, hyv, hst.trans (.one (step_leave_returned ⟨h5, h3, h2, fn, by rw [h1]; exact h6, h7⟩))⟩
omit hC hself in
/-- a call from a frame, that panics -/
theorem call_pan {f : FuncId} {args : List AV} {H : AH} {N : Nat} {v : AV} {b : Bool} {H' : AH} {N' : Nat} (hg : Goes1 P (EnteredN P f args) H N (.pan v) b H' N') {η : Env} {w : World} (hm : Mem η H w) (hf : Fresh η N N') {ys : List Value} (hy : γs η args = some ys)
    (fr : Frame) (hr : fr.mode = .run) (cs : List Frame) : ∃ η' w' y, Evo η H N w η' H' N' w' ∧ v.γ η' = some y ∧ Steps P (lone (Frame.enter P f ys.toArray .normal) (fr :: cs) w) (lone { fr with mode := .panicking [{ v := y, recovered := false }] } cs w') := by
  obtain ⟨η', w', he, hend⟩ := hg.2 η w _ (fr :: cs) hm hf ⟨ys, hy, rfl⟩
  obtain ⟨fr', cs', hst, ht, h1, h2, h3, h4, y, fn, hyv, h5, h6⟩ := hend
  have ht := ht.normal rfl
  subst ht
  have hl := step_leave_panicked (P := P) (fr := fr') (c := fr) (cs := cs) (w := w') ⟨h5, h3, fn, by rw [h1]; exact h6⟩
  refine ⟨η', w', y, he, hyv, hst.trans (.one ?_)⟩
  rw [hl]
  simp [Frame.raise, hr]
omit hC hself in
/-- a deferred call -/
theorem call_back_deferred {f : FuncId} {args : List AV} {H : AH} {N : Nat} {v : AV} {b : Bool} {H' : AH} {N' : Nat} (hg : Goes1 P (Entered P f args none) H N (.ret v) b H' N') {η : Env} {w : World} (hm : Mem η H w) (hf : Fresh η N N') {ys : List Value} (hy : γs η args = some ys)
    (fr : Frame) (hr : fr.mode = .returning) (cs : List Frame) : ∃ η' w', Evo η H N w η' H' N' w' ∧ Steps P (lone (Frame.enter P f ys.toArray .deferred) (fr :: cs) w) (lone fr cs w') := by
  have calm : ∀ ch, fr.mode ≠ .panicking ch := fun ch e => by rw [hr] at e; cases e
  obtain ⟨η', w', he, hend⟩ := hg.2 η w _ (fr :: cs) hm hf ⟨ys, .deferred, hy, .inr ⟨rfl, fr, cs, rfl, calm⟩, rfl⟩
  obtain ⟨fr', cs', hst, ht, h1, h2, h3, h4, y, fn, hyv, h5, h6, h7⟩ := hend
  have ht := ht.calm calm
  subst ht
  have := step_going_returned (P := P) (fr := fr') (c := fr) (cs := cs) (w := w') (v := y) h2 ⟨h5, h3, fn, by rw [h1]; exact h6, h7⟩
  refine ⟨η', w', he, hst.trans (.one ?_)⟩
  have e : ({ fr with mode := settle fr.mode } : Frame) = fr := by rw [hr]; show ({ fr with mode := .returning } : Frame) = fr; rw [← hr]
  rw [e] at this
  exact this
omit hC hself in
/-- a deferred call while a panic is on its way: the panic is recovered, or goes on -/
theorem call_back_pan {f : FuncId} {args : List AV} {u : AV} {H : AH} {N : Nat} {v : AV} {b : Bool} {H' : AH} {N' : Nat} (hg : Goes1 P (Entered P f args (some u)) H N (.ret v) b H' N') {η : Env} {w : World} (hm : Mem η H w) (hf : Fresh η N N') {ys : List Value} (hy : γs η args = some ys)
    (fr : Frame) {z : Value} (hz : u.γ η = some z) (hr : fr.mode = .panicking [{ v := z, recovered := false }]) (cs : List Frame) :
    ∃ η' w', Evo η H N w η' H' N' w' ∧ Steps P (lone (Frame.enter P f ys.toArray .deferred) (fr :: cs) w) (lone (if b then { fr with mode := .returning } else fr) cs w') := by
  obtain ⟨η', w', he, hend⟩ := hg.2 η w _ (fr :: cs) hm hf ⟨ys, .deferred, hy, ⟨rfl, fr, cs, z, rfl, hz, hr⟩, rfl⟩
  obtain ⟨fr', cs', hst, ht, h1, h2, h3, h4, y, fn, hyv, h5, h6, h7⟩ := hend
  refine ⟨η', w', he, ?_⟩
  cases b with
  | false =>
    have ht : cs' = fr :: cs := by
      rcases ht with rfl | ⟨_, c, rest, y', e, _, rfl⟩
      · rfl
      · cases e
        rcases h4 with h4 | ⟨c, rest, e, hn⟩
        · cases h4
        · cases e; exact absurd rfl (hn y')
    subst ht
    have := step_going_returned (P := P) (fr := fr') (c := fr) (cs := cs) (w := w') (v := y) h2 ⟨h5, h3, fn, by rw [h1]; exact h6, h7⟩
    refine hst.trans (.one ?_)
    have e : ({ fr with mode := settle fr.mode } : Frame) = fr := by
      rw [hr]
      show ({ fr with mode := .panicking [{ v := z, recovered := false }] } : Frame) = fr
      rw [← hr]
    rw [e] at this
    exact this
  | true =>
    obtain ⟨c, rest, y', e, hm'⟩ := h4
    have hc : c = { fr with mode := .panicking [{ v := y', recovered := true }] } ∧ rest = cs := by
      rcases ht with rfl | ⟨_, c0, rest0, y0, e0, hm0, rfl⟩
      · cases e
        rw [hr] at hm'
        simp at hm'
      · cases e0
        cases e
        simp only at hm'
        exact ⟨by rw [← hm'], rfl⟩
    obtain ⟨rfl, rfl⟩ := hc
    subst e
    have := step_going_returned (P := P) (fr := fr') (c := { fr with mode := .panicking [{ v := y', recovered := true }] }) (cs := rest) (w := w') (v := y) h2 ⟨h5, h3, fn, by rw [h1]; exact h6, h7⟩
    exact hst.trans (.one this)
end
end Go.Proofs.YthidihigidchgaaGreatDoor.Sy

namespace Go.Proofs.YthidihigidchgaaGreatDoor.Sy
section
variable {C : Cx} {P : Program} {η : Env} {M : MF} {T T' : Tr AV} {oa : Array Oper} {i : Nat} {o : Oper} {r : List AItem} {fr : Frame} {cs : List Frame}
theorem wanted_fr {nt : Nat} {tmps : Array Value} {w : Bool} (hT : TRel η T nt tmps) (hw : WantIs T oa.toList o w) : Region.wanted o (yielded oa tmps) = w := by
  unfold WantIs at hw
  unfold Region.wanted
  cases hgd : o.guard with
  | none => rw [hgd] at hw; simp [hw]
  | some g =>
    obtain ⟨j, want⟩ := g
    rw [hgd] at hw
    obtain ⟨g, d, v, hgj, hd, hv, hkind, rfl⟩ := hw
    obtain ⟨y, hy, ht⟩ := hT.at_ d v hv
    have hop : oa[j]? = some g := by simpa using hgj
    have e : ((oa[j]?).bind (·.dst)).bind (tmps[·]?) = some y := by rw [hop]; simp [hd, ht]
    show (yielded oa tmps j == some want) = _
    unfold yielded
    rw [e]
    rcases hkind with ⟨b, hv⟩ | hv
    · rw [hv] at hy ⊢
      rw [γ_bool hy]
      simp [isWant]
    · rw [hv] at hy ⊢
      simp [AV.γ, γs_nil] at hy
      subst hy
      simp [isWant]
theorem FReg.at_ (h : FReg η M T oa i r fr cs) (ho : oa[i]? = some o) : ∃ k, itemsγ η r = some k ∧ fr.todo = .inRegion oa (i :: List.range' (i + 1) (oa.size - (i + 1))) :: k := by
  obtain ⟨_, _, k, hk, ht⟩ := h
  have hi : i < oa.size := by
    rcases Nat.lt_or_ge i oa.size with h' | h'
    · exact h'
    · rw [Array.getElem?_eq_none h'] at ho; cases ho
  refine ⟨k, hk, ?_⟩
  rw [ht, show oa.size - i = (oa.size - (i + 1)) + 1 from by omega, List.range'_succ]
theorem FReg.finish (h : FReg η M T oa i r fr cs) (ho : oa[i]? = some o) {v : AV} {y : Value} (hv : v.γ η = some y) (hl : ∀ q, Tr.look T' q = if o.dst = some q then some v else Tr.look T q) (hn : ∀ t, o.dst = some t → t < M.nt) :
    FReg η M T' oa (i + 1) r (fr.finish y) cs ∧ Same fr (fr.finish y) := by
  obtain ⟨k, hk, ht⟩ := h.at_ ho
  rw [finish_op ho ht]
  obtain ⟨hb, hm, _⟩ := h
  refine ⟨⟨⟨hb.fn, ?_, hb.round, hb.defers, hb.kind⟩, hm, k, hk, rfl⟩, rfl, rfl, rfl⟩
  have := TRel.put (a := ⟨fr.tmps, []⟩) hb.tmps hv hl hn
  cases hd : o.dst with
  | none => rw [hd] at this; exact this
  | some d => rw [hd] at this; exact this
theorem FReg.mono {η' : Env} (hle : η.le η') (h : FReg η M T oa i r fr cs) : FReg η' M T oa i r fr cs :=
  let ⟨hb, hm, k, hk, ht⟩ := h; ⟨hb.mono hle, hm, k, itemsγ_mono hle hk, ht⟩
/-- what a frame does at an operation that is no deferral in a round -/
theorem semFr_eq (h : fr.roundOf = none ∨ ∀ c, o.op ≠ .defer c) : semFr fr o = execOp (evt fr.tmps) o := by
  unfold semFr
  rw [eval_fr]
  split
  · rename_i l c h1 h2
    rcases h with h | h
    · rw [h] at h1; cases h1
    · exact absurd h2 (h c)
  · rfl
theorem noCall {ops : Array Oper} {l : List Nat} {k : List Item} (ht : fr.todo = .inRegion ops l :: k) : ∀ d r s k', fr.todo ≠ .call d true r s :: k' := fun d r s k' e => by rw [ht] at e; cases e
theorem tryRecover_normal (hk : fr.kind = .normal) : tryRecover fr cs = none := by unfold tryRecover; rw [hk]
theorem noRecover (hb : FBase η M T fr cs) (hrc : M.rc = none) (hrcd : M.rcd = false) (hf : P.follows .rangeFuncRecover = true) :
    (match fr.roundOf with | some l => if P.follows .rangeFuncRecover then tryRecover fr cs else tryRecoverLoop l cs | none => tryRecover fr cs) = none := by
  have key : tryRecover fr cs = none := by
    have hk := hb.kind
    rw [hrc, hrcd] at hk
    rcases hk with hk | ⟨hk, c, rest, rfl, hc⟩
    · exact tryRecover_normal hk
    · unfold tryRecover
      rw [hk]
      dsimp only
      split
      · rename_i e; exact absurd e (hc _)
      · rfl
  cases hr : fr.roundOf with
  | none => exact key
  | some l => simp only [hf, if_true]; exact key
/-- the caller's panic is recovered -/
theorem doesRecover (hb : FBase η M T fr cs) {v : AV} (hrc : M.rc = some v) (hrcd : M.rcd = false) : fr.kind = .deferred ∧ ∃ c rest y, cs = c :: rest ∧ v.γ η = some y ∧ c.mode = .panicking [{ v := y, recovered := false }] ∧
    tryRecover fr cs = some (y, { c with mode := .panicking [{ v := y, recovered := true }] } :: rest) := by
  have hk := hb.kind
  rw [hrc, hrcd] at hk
  obtain ⟨hk, c, rest, y, rfl, hy, hm⟩ := hk
  refine ⟨hk, c, rest, y, rfl, hy, hm, ?_⟩
  unfold tryRecover
  rw [hk]
  simp [hm]
end
theorem layArgs_spec {nt : Nat} : ∀ (ps : List Tmp) (args : List AV) {T : Tr AV} {k : Tr AV → Bool}, layArgs nt T ps args k = true → ∃ T', k T' = true ∧ ps.length = args.length ∧
    ∀ η tmps ys, TRel η T nt tmps → γs η args = some ys → TRel η T' nt ((ps.zip ys).foldl (fun tmps (x : Tmp × Value) => tmps.setIfInBounds x.1 x.2) tmps)
  | [], [], T, k, h => ⟨T, h, rfl, fun η tmps ys hT _ => hT⟩
  | p :: ps, a :: as, T, k, h => by
    obtain ⟨T1, h, hl, hn⟩ := put_spec (show put T nt (some p) a (fun T => layArgs nt T ps as k) = true from h)
    obtain ⟨T', hk, hlen, hT'⟩ := layArgs_spec ps as h
    refine ⟨T', hk, by simp [hlen], fun η tmps ys hT hy => ?_⟩
    obtain ⟨x, s, hx, hs, rfl⟩ := γs_cons.1 hy
    exact hT' η _ s (TRel.put (a := ⟨tmps, []⟩) hT hx hl hn) hs
  | [], _ :: _, T, k, h => by cases h
  | _ :: _, [], T, k, h => by cases h
section
variable {C : Cx} {P : Program} (hC : C.OKc P) {self : Krun} (hself : RunOK P self)
include hself
/-- a round of a loop over a function -/
theorem roundGoes {H : AH} {N : Nat} {l : Nat} {args : List AV} {k : Kend} (h : AH.loopOf H l (goRound self H N l args k) = true) : ∃ e b H' N', k e b H' N' = true ∧ N ≤ N' ∧
    ∀ η w p ys fr cs, Mem η H w → Fresh η N N' → η.ρ l = some p → γs η args = some ys → ∃ (lp : Loop) (v : AV) (η' : Env) (w' : World) (y : Value), e = .ret v ∧ (Instr.yield p.1 ys.toArray).run P w = .ok (.round p.1 lp.fn ((lp.params.zip ys.toArray).foldl (fun tmps (x : Tmp × Value) => tmps.setIfInBounds x.1 x.2) lp.tmps) lp.assign lp.body) w ∧
      Evo η H N w η' H' N' w' ∧ v.γ η' = some y ∧
      Steps P (lone (Frame.round p.1 lp.fn ((lp.params.zip ys.toArray).foldl (fun tmps (x : Tmp × Value) => tmps.setIfInBounds x.1 x.2) lp.tmps) lp.assign lp.body .normal) (fr :: cs) w) (lone (fr.finish y) cs w') := by
  obtain ⟨x, hx, h⟩ := loopOf_spec h
  obtain ⟨T', hk, hlen, hT'⟩ := layArgs_spec _ _ (show layArgs x.nt x.tmps x.params.toList args (fun T => self ⟨x.fn, x.nt, some l, [], none, false, k⟩ T (.go [.code x.assign, .beginRound, .code x.body]) H N) = true from h)
  obtain ⟨e, b, H', N', hv, hle, hg⟩ := hself _ _ _ _ _ hk
  refine ⟨e, b, H', N', hv, hle, fun η w p ys fr cs hm hf hp hy => ?_⟩
  obtain ⟨q, lp, hq, h0, hlp, hh⟩ := mem_loop hm hx
  rw [hp] at hq; cases hq
  obtain ⟨e1, e2, e3, e4, e5, e6, hT, d, hd, e7⟩ := hlp
  have hsz : ys.toArray.size = lp.params.size := by
    rw [e4]
    have := γs_length hy
    simp at hlen ⊢
    omega
  have efold : (lp.params.zip ys.toArray).foldl (fun tmps (x : Tmp × Value) => tmps.setIfInBounds x.1 x.2) lp.tmps = (x.params.toList.zip ys).foldl (fun tmps (x : Tmp × Value) => tmps.setIfInBounds x.1 x.2) lp.tmps := by
    rw [e4, ← Array.foldl_toList]
    simp
  have hrun : (Instr.yield p.1 ys.toArray).run P w = .ok (.round p.1 lp.fn ((lp.params.zip ys.toArray).foldl (fun tmps (x : Tmp × Value) => tmps.setIfInBounds x.1 x.2) lp.tmps) lp.assign lp.body) w := by
    have hne : ¬ (ys.toArray.size ≠ lp.params.size) := fun h => h hsz
    simp only [Instr.yield, Sem.run_bind, run_getLoop hh, Result.andThen_ok]
    rw [if_neg hne]
    rfl
  have hfr : FRel η ⟨x.fn, x.nt, some l, [], none, false, k⟩ T' (.go [.code x.assign, .beginRound, .code x.body]) (Frame.round p.1 lp.fn ((lp.params.zip ys.toArray).foldl (fun tmps (x : Tmp × Value) => tmps.setIfInBounds x.1 x.2) lp.tmps) lp.assign lp.body .normal) (fr :: cs) := by
    refine ⟨⟨e3, ?_, ⟨rfl, ⟨fr, cs, rfl⟩, p, hp, rfl⟩, rfl, .inl rfl⟩, rfl, ?_⟩
    · rw [efold]; exact hT' η _ _ hT hy
    · simp [itemsγ, itemγ, Frame.round, e5, e6]
  obtain ⟨η', w', he, hend⟩ := hg η w _ _ hm hf hfr
  obtain ⟨c, rest, v, y, hc, rfl, _, hyv, hst⟩ := hend
  have hc := hc.normal rfl
  cases hc
  exact ⟨lp, v, η', w', y, rfl, hrun, he, hyv, hst⟩
end
end Go.Proofs.YthidihigidchgaaGreatDoor.Sy

namespace Go.Proofs.YthidihigidchgaaGreatDoor.Sy
/-! Both ways of a choice. -/
theorem sameEnts_eq : ∀ (a b : List AEnt), sameEnts a b = true → a = b
  | [], [], _ => rfl
  | x :: r, y :: s, h => by
    simp only [sameEnts] at h
    split at h
    · rename_i hb
      obtain ⟨h1, h2⟩ := band hb
      obtain ⟨h3, h4⟩ := band h1
      have e1 := sameV_eq _ _ h3
      have e2 := sameV_eq _ _ h4
      have e3 := nbeq h2
      obtain ⟨k1, v1, b1⟩ := x
      obtain ⟨k2, v2, b2⟩ := y
      simp only at e1 e2 e3
      subst e1; subst e2; subst e3
      rw [sameEnts_eq r s h]
    · cases h
  | [], _ :: _, h => by cases h
  | _ :: _, [], h => by cases h
theorem sameObj_eq {a b : AObj} (h : sameObj a b = true) : a = b := by
  unfold sameObj at h
  split at h
  · obtain ⟨h1, h2⟩ := band h
    obtain ⟨h3, h4⟩ := band h1
    rw [sameL_eq _ _ h3, nbeq h4]
    rename_i p _ _ q
    cases p <;> cases q <;> first | rfl | cases h2
  · obtain ⟨h1, h2⟩ := band h
    rw [sameEnts_eq _ _ h1, nbeq h2]
  · obtain ⟨h1, h2⟩ := band h
    obtain ⟨h3, h4⟩ := band h1
    obtain ⟨h5, h6⟩ := band h2
    rw [nbeq h3, nbeq h4, nbeq h5, nbeq h6]
  · cases h
theorem calmK_spec {H : AH} : ∀ (n : Nat) (A : AH) (k : AH → Bool), calmK H n A k = true → ∃ A', k A' = true ∧ ∀ q o, Tr.look A' q = some o → Tr.look A q = some o ∨ (q < n ∧ Tr.look H q = some o)
  | 0, A, k, h => ⟨A, h, fun q o e => .inl e⟩
  | n + 1, A, k, h => by
    have h : (match Tr.hasK H n with
      | true => Tr.get H n fun o => match calmObj o with
        | true => Tr.set A n (some o) fun A => calmK H n A k
        | false => calmK H n A k
      | false => calmK H n A k) = true := h
    have on : ∀ A1, calmK H n A1 k = true → (∀ q o, Tr.look A1 q = some o → Tr.look A q = some o ∨ (q < n + 1 ∧ Tr.look H q = some o)) → ∃ A', k A' = true ∧ ∀ q o, Tr.look A' q = some o → Tr.look A q = some o ∨ (q < n + 1 ∧ Tr.look H q = some o) := by
      intro A1 h1 h2
      obtain ⟨A', hk, hl⟩ := calmK_spec n A1 k h1
      refine ⟨A', hk, fun q o e => ?_⟩
      rcases hl q o e with e | ⟨e1, e2⟩
      · exact h2 q o e
      · exact .inr ⟨by omega, e2⟩
    split at h
    · obtain ⟨o, ho, h⟩ := Tr.get_spec h
      split at h
      · obtain ⟨A1, h, hl⟩ := Tr.set_spec h
        refine on A1 h fun q o' e => ?_
        rw [hl] at e
        split at e
        · rename_i e0; cases e; subst e0; exact .inr ⟨by omega, ho⟩
        · exact .inl e
      · exact on A h fun q o e => .inl e
    · exact on A h fun q o e => .inl e
theorem agreeK_spec {A H : AH} : ∀ (n : Nat), agreeK A H n = true → ∀ q o, q < n → Tr.look A q = some o → Tr.look H q = some o
  | 0, _, q, o, hq, _ => absurd hq (Nat.not_lt_zero _)
  | n + 1, h, q, o, hq, e => by
    have h : (match Tr.hasK A n with
      | true => Tr.get A n fun o => Tr.get H n fun o' => match sameObj o o' with
        | true => agreeK A H n
        | false => false
      | false => agreeK A H n) = true := h
    split at h
    · obtain ⟨o1, ho1, h⟩ := Tr.get_spec h
      obtain ⟨o2, ho2, h⟩ := Tr.get_spec h
      split at h
      · rename_i hs
        have := sameObj_eq hs
        subst this
        by_cases hqn : q = n
        · subst hqn
          rw [ho1] at e; cases e
          exact ho2
        · exact agreeK_spec n h q o (by omega) e
      · cases h
    · rename_i hn
      by_cases hqn : q = n
      · subst hqn
        have : Tr.hasK A q = true := by
          unfold Tr.hasK Tr.get
          rw [Tr.getK_of 8 A q e]
        rw [this] at hn; cases hn
      · exact agreeK_spec n h q o (by omega) e
theorem bothEnd_spec {A : AH} {N B : Nat} {e : AEnd} {b : Bool} {H : AH} {N' : Nat} (h : bothEnd A N B e b H N' = true) : e = .ret (.bool true) ∧ b = false ∧ N' ≤ B ∧ agreeK A H N = true := by
  unfold bothEnd at h
  split at h
  · split at h
    · rename_i hb
      exact ⟨rfl, rfl, Nat.le_of_ble_eq_true hb, h⟩
    · cases h
  · cases h
/-- less memory, more names -/
theorem Evo.weaken {η η' : Env} {H H' A : AH} {N N' B : Nat} {w w' : World} (he : Evo η H N w η' H' N' w') (hA : ∀ q o, Tr.look A q = some o → Tr.look H' q = some o) (hB : N' ≤ B) : Evo η H N w η' A B w' where
  le := he.le
  out i hi := he.out i (hi.imp id fun h => Nat.le_trans hB h)
  nn := Nat.le_trans he.nn hB
  mem := he.mem.less hA
  size := he.size
  keep := he.keep
  own b h := he.own b (let ⟨i, o, p, h1, h2⟩ := h; ⟨i, o, p, hA i o h1, h2⟩)
  mine b h := he.mine b (let ⟨i, o, p, h1, h2⟩ := h; ⟨i, o, p, hA i o h1, h2⟩)
  like := he.like
end Go.Proofs.YthidihigidchgaaGreatDoor.Sy

namespace Go.Proofs.YthidihigidchgaaGreatDoor.Sy
section
variable {C : Cx} {P : Program} (hC : C.OKc P) {self : Krun} (hself : RunOK P self) (hrec : P.follows .rangeFuncRecover = true) (hkn : KnownOK C P)
include hC
omit hC in
/-- an operation that is put off says so -/
theorem defer_ro {o : Oper} {c : Call} {ih : Kreg} {M : MF} {all : List Oper} {r : List AItem} {T : Tr AV} {H : AH} {N : Nat} {dst : Option Tmp} (ho : o.op = .defer c) (h : opA o.op C T H N o.type (finOp C self ih dst M all r T) = true) : M.ro = none := by
  rw [ho] at h
  obtain ⟨d, hd, _⟩ := resolveA_spec (P := C.p) (show resolveA T c o.type (fun d => finDfr ih dst M all r T d H N) = true from h)
  obtain ⟨fn, nt, ro, ds, rc, rcd, k⟩ := M
  cases ro with
  | none => rfl
  | some l => cases hd
omit hC in
theorem panM_spec {M : MF} {T : Tr AV} {v : AV} {H : AH} {N : Nat} (h : panM self M T v H N = true) : M.ro = none ∧ self M T (.pan v) H N = true := by
  unfold panM at h
  split at h
  · rename_i e; exact ⟨e, h⟩
  · cases h
include hself hrec hkn
/-- a region's operations, one behind the other -/
theorem regL_spec {oa : Array Oper} {r : List AItem} : ∀ (rest : List Oper) (i : Nat) (M : MF) (T : Tr AV) (H : AH) (N : Nat), oa.toList.drop i = rest → regL C self rest M oa.toList r T H N = true →
    Ok P (fun η fr cs => FReg η M T oa i r fr cs) H N M.k
  | [], i, M, T, H, N, hd, h => by
    have hi : oa.size ≤ i := by simpa using hd
    refine (Moves.step fun η w fr cs hm hr => ?_).ok (hself M T (.go r) H N h)
    obtain ⟨hb, hmode, k, hk, ht⟩ := hr
    have e : oa.size - i = 0 := by omega
    rw [e] at ht
    exact ⟨_, st_region_end hmode ht, ⟨hb.todo k, hmode, hk⟩, rfl, rfl, rfl⟩
  | o :: rest, i, M, T, H, N, hd, h => by
    have hi : i < oa.size := by
      rcases Nat.lt_or_ge i oa.size with h' | h'
      · exact h'
      · rw [List.drop_eq_nil_of_le (by simpa using h')] at hd; cases hd
    have ho : oa[i]? = some o := by
      have h1 : (oa.toList.drop i)[0]? = some o := by rw [hd]; rfl
      rw [List.getElem?_drop] at h1
      simpa using h1
    have hd' : oa.toList.drop (i + 1) = rest := by
      rw [← List.drop_drop, hd]; rfl
    obtain ⟨wt, h, hwt⟩ := wantedA_spec (show wantedA T oa.toList o (stepReg C self o (regL C self rest) M oa.toList r T H N) = true from h)
    -- a value is laid, the next operation is come to
    have fin : ∀ {M' : MF} {v : AV} {H1 : AH} {N1 : Nat}, finV (regL C self rest) o.dst M' oa.toList r T v H1 N1 = true → ∃ T', (∀ q, Tr.look T' q = if o.dst = some q then some v else Tr.look T q) ∧ (∀ t, o.dst = some t → t < M'.nt) ∧
        Ok P (fun η fr cs => FReg η M' T' oa (i + 1) r fr cs) H1 N1 M'.k := by
      intro M' v H1 N1 h
      obtain ⟨T', h, hl, hn⟩ := put_spec (show put T M'.nt o.dst v (fun T => regL C self rest M' oa.toList r T H1 N1) = true from h)
      exact ⟨T', hl, hn, regL_spec rest (i + 1) M' T' H1 N1 hd' h⟩
    cases wt with
    | false =>
      obtain ⟨T', hl, hn, hg⟩ := fin (M' := M) (show finV (regL C self rest) o.dst M oa.toList r T (.tuple []) H N = true from h)
      refine (Moves.step fun η w fr cs hm hr => ?_).ok hg
      obtain ⟨k, hk, ht⟩ := hr.at_ ho
      have hw : Region.wanted o (yielded oa fr.tmps) = false := wanted_fr hr.1.tmps hwt
      obtain ⟨h1, h2⟩ := hr.finish ho (y := undef) (by simp [AV.γ, γs_nil, undef]) hl hn
      exact ⟨_, st_op_skip ho hr.2.1 ht hw, h1, h2⟩
    | true =>
      have h : opA o.op C T H N o.type (finOp C self (regL C self rest) o.dst M oa.toList r T) = true := h
      obtain ⟨x, H1, N1, hx, hruns⟩ := opA_spec hC h
      have hnd : M.ro = none ∨ ∀ c, o.op ≠ .defer c := by
        cases hro : M.ro with
        | none => exact .inl rfl
        | some l => exact .inr fun c e => by have := defer_ro e h; rw [hro] at this; cases this
      -- the step of the machine
      have stp : ∀ {η : Env} {w : World} {fr : Frame} {cs : List Frame}, FReg η M T oa i r fr cs → stepG P true { frame := fr, callers := cs, status := .running, dying := none } w = stepG.apply P true fr cs none (execOp (evt fr.tmps) o) w := by
        intro η w fr cs hr
        obtain ⟨k, hk, ht⟩ := hr.at_ ho
        have hw : Region.wanted o (yielded oa fr.tmps) = true := wanted_fr hr.1.tmps hwt
        rw [stepG_fr ho hr.2.1 ht hw, semFr_eq]
        refine hnd.imp (fun e => ?_) id
        have := hr.1.round
        rw [e] at this
        exact this
      cases x with
      | val v =>
        obtain ⟨T', hl, hn, hg⟩ := fin (M' := M) (show finV (regL C self rest) o.dst M oa.toList r T v H1 N1 = true from hx)
        refine Moves.ok ⟨hruns.nn, fun η w fr cs hm hf hr => ?_⟩ hg
        obtain ⟨η1, w1, he, y, hy, hrun⟩ := hruns.run η w M.nt fr.tmps hm hf hr.1.tmps
        obtain ⟨h1, h2⟩ := (hr.mono he.le).finish ho hy hl hn
        exact ⟨η1, w1, _, cs, he, .one (step_lone_go (by rw [stp hr]; exact ap_value hrun)), h1, h2, .refl _ _⟩
      | skip =>
        obtain ⟨T', hl, hn, hg⟩ := fin (M' := M) (show finV (regL C self rest) o.dst M oa.toList r T (.tuple []) H1 N1 = true from hx)
        refine Moves.ok ⟨hruns.nn, fun η w fr cs hm hf hr => ?_⟩ hg
        obtain ⟨η1, w1, he, hrun⟩ := hruns.run η w M.nt fr.tmps hm hf hr.1.tmps
        obtain ⟨h1, h2⟩ := (hr.mono he.le).finish ho (y := undef) (by simp [AV.γ, γs_nil, undef]) hl hn
        exact ⟨η1, w1, _, cs, he, .one (step_lone_go (by rw [stp hr]; exact ap_skip hrun)), h1, h2, .refl _ _⟩
      | enter f args =>
        obtain ⟨e, b, H2, N2, hx, hcall⟩ := callKGoes hC hself hkn (show callK C self f args (finCall self (regL C self rest) o.dst M oa.toList r T) H1 N1 = true from hx)
        cases e with
        | ret v =>
          obtain ⟨T', hl, hn, hg⟩ := fin (M' := M) (show finV (regL C self rest) o.dst M oa.toList r T v H2 N2 = true from hx)
          refine Moves.ok ⟨Nat.le_trans hruns.nn hcall.1, fun η w fr cs hm hf hr => ?_⟩ hg
          obtain ⟨η1, w1, he, ys, hy, hrun⟩ := hruns.run η w M.nt fr.tmps hm (hf.sub (Nat.le_refl _) hcall.1) hr.1.tmps
          obtain ⟨η2, w2, y, he2, hyv, hst⟩ := call_back hcall he.mem (he.fresh hf) hy fr cs
          obtain ⟨k, hk, ht⟩ := hr.at_ ho
          obtain ⟨h1, h2⟩ := (hr.mono (he.trans he2).le).finish ho hyv hl hn
          exact ⟨η2, w2, _, cs, he.trans he2, .head (step_lone_go (by rw [stp hr]; exact ap_enter (noCall ht) hrun)) hst, h1, h2, .refl _ _⟩
        | pan v =>
          obtain ⟨hro, hx⟩ := panM_spec (show panM self M T v H2 N2 = true from hx)
          refine Moves.ok ⟨Nat.le_trans hruns.nn hcall.1, fun η w fr cs hm hf hr => ?_⟩ (hself _ _ _ _ _ hx)
          obtain ⟨η1, w1, he, ys, hy, hrun⟩ := hruns.run η w M.nt fr.tmps hm (hf.sub (Nat.le_refl _) hcall.1) hr.1.tmps
          obtain ⟨η2, w2, y, he2, hyv, hst⟩ := call_pan hcall he.mem (he.fresh hf) hy fr hr.2.1 cs
          obtain ⟨k, hk, ht⟩ := hr.at_ ho
          exact ⟨η2, w2, _, cs, he.trans he2, .head (step_lone_go (by rw [stp hr]; exact ap_enter (noCall ht) hrun)) hst, ⟨(hr.1.mono (he.trans he2).le).mode _, ⟨y, hyv, rfl⟩, hro⟩, ⟨rfl, rfl, rfl⟩, .refl _ _⟩
      | dfr d =>
        obtain ⟨fn, nt, ro, ds, rc, rcd, kk⟩ := M
        cases ro with
        | some l => cases hx
        | none =>
          obtain ⟨T', hl, hn, hg⟩ := fin (M' := ⟨fn, nt, none, d :: ds, rc, rcd, kk⟩) (show finV (regL C self rest) o.dst ⟨fn, nt, none, d :: ds, rc, rcd, kk⟩ oa.toList r T (.tuple []) H1 N1 = true from hx)
          refine Moves.ok ⟨hruns.nn, fun η w fr cs hm hf hr => ?_⟩ hg
          obtain ⟨η1, w1, he, d', hd', hrun⟩ := hruns.run η w nt fr.tmps hm hf hr.1.tmps
          have hr1 := hr.mono he.le
          obtain ⟨hb, hmode, k, hk, ht⟩ := hr1
          have hb2 : FReg η1 ⟨fn, nt, none, d :: ds, rc, rcd, kk⟩ T oa i r { fr with defers := d' :: fr.defers } cs := by
            have hdf := hb.defers
            exact ⟨⟨hb.fn, hb.tmps, hb.round, by simp only [defsγ]; rw [hd', hdf], hb.kind⟩, hmode, k, hk, ht⟩
          obtain ⟨h1, h2⟩ := hb2.finish ho (y := undef) (by simp [AV.γ, γs_nil, undef]) hl hn
          exact ⟨η1, w1, _, cs, he, .one (step_lone_go (by rw [stp hr]; exact ap_defer hrun)), h1, Same.trans (b := { fr with defers := d' :: fr.defers }) ⟨rfl, rfl, rfl⟩ h2, .refl _ _⟩
      | rcv =>
        obtain ⟨fn, nt, ro, ds, rc, rcd, kk⟩ := M
        cases rcd with
        | true => cases hx
        | false =>
          cases rc with
          | none =>
            obtain ⟨T', hl, hn, hg⟩ := fin (M' := ⟨fn, nt, ro, ds, none, false, kk⟩) (show finV (regL C self rest) o.dst ⟨fn, nt, ro, ds, none, false, kk⟩ oa.toList r T .nilIface H1 N1 = true from hx)
            refine Moves.ok ⟨hruns.nn, fun η w fr cs hm hf hr => ?_⟩ hg
            obtain ⟨η1, w1, he, hrun⟩ := hruns.run η w nt fr.tmps hm hf hr.1.tmps
            obtain ⟨h1, h2⟩ := (hr.mono he.le).finish ho (v := .nilIface) (y := .nilIface) (by simp [AV.γ]) hl hn
            exact ⟨η1, w1, _, cs, he, .one (step_lone_go (by rw [stp hr]; exact ap_recover (noRecover hr.1 rfl rfl hrec) hrun)), h1, h2, .refl _ _⟩
          | some u =>
            cases ro with
            | some l => cases hx
            | none =>
              obtain ⟨T', hl, hn, hg⟩ := fin (M' := ⟨fn, nt, none, ds, none, true, kk⟩) (show finV (regL C self rest) o.dst ⟨fn, nt, none, ds, none, true, kk⟩ oa.toList r T u H1 N1 = true from hx)
              refine Moves.ok ⟨hruns.nn, fun η w fr cs hm hf hr => ?_⟩ hg
              obtain ⟨η1, w1, he, hrun⟩ := hruns.run η w nt fr.tmps hm hf hr.1.tmps
              have hr1 := hr.mono he.le
              obtain ⟨hkd, c, rst, y, rfl, hy, hcm, htry⟩ := doesRecover hr1.1 rfl rfl
              have hrn : fr.roundOf = none := hr.1.round
              have hb2 : FReg η1 ⟨fn, nt, none, ds, none, true, kk⟩ T oa i r fr ({ c with mode := .panicking [{ v := y, recovered := true }] } :: rst) :=
                ⟨⟨hr1.1.fn, hr1.1.tmps, hr1.1.round, hr1.1.defers, ⟨hkd, _, rst, y, rfl, rfl⟩⟩, hr1.2⟩
              obtain ⟨h1, h2⟩ := hb2.finish ho hy hl hn
              exact ⟨η1, w1, _, _, he, .one (step_lone_go (by rw [stp hr]; exact ap_recover_some hrn htry hrun)), h1, h2, .inr ⟨hkd, c, rst, y, rfl, hcm, rfl⟩⟩
      | round l args =>
        obtain ⟨e, b, H2, N2, hx, hle, hround⟩ := roundGoes hself (show AH.loopOf H1 l (goRound self H1 N1 l args (finCall self (regL C self rest) o.dst M oa.toList r T)) = true from hx)
        cases e with
        | ret v =>
          obtain ⟨T', hl, hn, hg⟩ := fin (M' := M) (show finV (regL C self rest) o.dst M oa.toList r T v H2 N2 = true from hx)
          refine Moves.ok ⟨Nat.le_trans hruns.nn hle, fun η w fr cs hm hf hr => ?_⟩ hg
          obtain ⟨η1, w1, he, p, ys, hp, hy, hrun⟩ := hruns.run η w M.nt fr.tmps hm (hf.sub (Nat.le_refl _) hle) hr.1.tmps
          obtain ⟨lp, v', η2, w2, y, hev, hyield, he2, hyv, hst⟩ := hround η1 w1 p ys fr cs he.mem (he.fresh hf) hp hy
          cases hev
          rw [hyield] at hrun
          obtain ⟨h1, h2⟩ := (hr.mono (he.trans he2).le).finish ho hyv hl hn
          exact ⟨η2, w2, _, cs, he.trans he2, .head (step_lone_go (by rw [stp hr]; exact ap_round hrun)) hst, h1, h2, .refl _ _⟩
        | pan v =>
          obtain ⟨hro, hx⟩ := panM_spec (show panM self M T v H2 N2 = true from hx)
          refine Moves.ok ⟨Nat.le_trans hruns.nn hle, fun η w fr cs hm hf hr => ?_⟩ (hself _ _ _ _ _ hx)
          obtain ⟨η1, w1, he, p, ys, hp, hy, hrun⟩ := hruns.run η w M.nt fr.tmps hm (hf.sub (Nat.le_refl _) hle) hr.1.tmps
          obtain ⟨lp, v', η2, w2, y, hev, _⟩ := hround η1 w1 p ys fr cs he.mem (he.fresh hf) hp hy
          cases hev
      | pnc v =>
        obtain ⟨hro, hx⟩ := panM_spec (show panM self M T v H1 N1 = true from hx)
        refine Moves.ok ⟨hruns.nn, fun η w fr cs hm hf hr => ?_⟩ (hself _ _ _ _ _ hx)
        obtain ⟨η1, w1, he, y, hy, hrun⟩ := hruns.run η w M.nt fr.tmps hm hf hr.1.tmps
        refine ⟨η1, w1, { fr with mode := .panicking [{ v := y, recovered := false }] }, cs, he, .one (step_lone_go ?_), ⟨(hr.1.mono he.le).mode _, ⟨y, hy, rfl⟩, hro⟩, ⟨rfl, rfl, rfl⟩, .refl _ _⟩
        rw [stp hr, ap_panic hrun]
        simp [Frame.raise, hr.2.1]
      | either it =>
        obtain ⟨A, hx, hA⟩ := calmK_spec N1 _ _ (show calmK H1 N1 .e (fun A => fzNat (Nat.add N1 1000) fun B => match eitherK H1 it (twoWays (regL C self rest) o.dst M oa.toList r T N1 A B) with
          | true => M.k (.ret (.bool true)) false A B
          | false => false) = true from hx)
        rw [fzNat_eq] at hx
        split at hx
        · rename_i htwo
          have way : ∀ {v : AV} {G : AH}, finV (regL C self rest) o.dst (withK M (bothEnd A N1 (Nat.add N1 1000))) oa.toList r T v G N1 = true → ∃ T' H' N', (∀ q, Tr.look T' q = if o.dst = some q then some v else Tr.look T q) ∧ (∀ t, o.dst = some t → t < M.nt) ∧
              Goes1 P (fun η fr cs => FReg η M T' oa (i + 1) r fr cs) G N1 (.ret (.bool true)) false H' N' ∧ N' ≤ N1 + 1000 ∧ ∀ q ob, Tr.look A q = some ob → Tr.look H' q = some ob := by
            intro v G h
            obtain ⟨T', hl, hn, e, b, H', N', hk, hg⟩ := fin h
            obtain ⟨fn, nt, ro, ds, rc, rcd, kk⟩ := M
            obtain ⟨rfl, rfl, hle, hag⟩ := bothEnd_spec (show bothEnd A N1 (Nat.add N1 1000) e b H' N' = true from hk)
            refine ⟨T', H', N', hl, hn, ⟨hg.1, fun η w fr cs hm hf hr => hg.2 η w fr cs hm hf ?_⟩, hle, fun q ob hq => ?_⟩
            · exact ⟨⟨hr.1.fn, hr.1.tmps, hr.1.round, hr.1.defers, hr.1.kind⟩, hr.2⟩
            · rcases hA q ob hq with h | ⟨h, _⟩
              · rw [Tr.look_e] at h; cases h
              · exact agreeK_spec _ hag q ob h hq
          have hnn := hruns.nn
          refine ⟨.ret (.bool true), false, A, N1 + 1000, hx, by omega, fun η w fr cs hm hf hr => ?_⟩
          obtain ⟨η1, w1, he, w2, y, hrun, hboth⟩ := hruns.run η w M.nt fr.tmps hm (hf.sub (Nat.le_refl _) (by omega)) hr.1.tmps
          obtain ⟨v1, G1, v2, G2, hways, hor⟩ := hboth H1 _ he.mem htwo
          unfold twoWays at hways
          split at hways
          · rename_i hway1
            -- one way, gone to the frame's end
            have goes : ∀ {v : AV} {G : AH}, finV (regL C self rest) o.dst (withK M (bothEnd A N1 (Nat.add N1 1000))) oa.toList r T v G N1 = true → v.γ η1 = some y → Evo η1 H1 N1 w1 η1 G N1 w2 →
                ∃ η' w', Evo η H N w η' A (N1 + 1000) w' ∧ Ends P fr cs (.ret (.bool true)) false η' w w' := by
              intro v G hway hv hevo
              obtain ⟨T', H', N', hl, hn, hg, hB, hAA⟩ := way hway
              have he2 := he.trans hevo
              obtain ⟨h1, h2⟩ := (hr.mono he2.le).finish ho hv hl hn
              have hf2 : Fresh η1 N1 N' := (he2.fresh hf).sub (Nat.le_refl _) hB
              obtain ⟨η', w', he3, hend⟩ := hg.2 η1 w2 (fr.finish y) cs he2.mem hf2 h1
              exact ⟨η', w', (he2.trans he3).weaken hAA hB, hend.of_steps (.one (step_lone_go (by rw [stp hr]; exact ap_value hrun))) h2 (.refl _ _)⟩
            rcases hor with ⟨hv, hevo⟩ | ⟨hv, hevo⟩
            · exact goes hway1 hv (hevo N1)
            · exact goes hways hv (hevo N1)
          · cases hways
        · cases hx
end
end Go.Proofs.YthidihigidchgaaGreatDoor.Sy

namespace Go.Proofs.YthidihigidchgaaGreatDoor.Sy
/-! Steps of rounds and loops. -/
section
variable {P : Program} {fr c : Frame} {cs rest : List Frame} {w : World} {k : List Item} {l : Nat} {x : Loop}
def LeavesBy (fr : Frame) : Option Code → Prop
  | none => fr.todo = []
  | some .ret => ∃ k, fr.todo = .code .ret :: k
  | some (.exit id) => ∃ k, fr.todo = .code (.exit id) :: k ∧ exitTo id k = none
  | some (.goto id) => ∃ k, fr.todo = .code (.goto id) :: k ∧ gotoIn id k = none
  | some _ => False
theorem run_endRound {jump : Option Code} (hh : w.heap[l]? = some (.loop x)) : (Instr.endRound l jump).run P w = .ok (.bool jump.isNone) { w with heap := w.heap.setIfInBounds l (.loop { x with state := if jump.isNone then .ready else .done, pending := jump }) } := by
  simp only [Instr.endRound, Sem.run_bind, run_getLoop hh, Result.andThen_ok, run_setLoop hh, Sem.run_pure]
theorem st_leave_round {jump : Option Code} (hm : fr.mode = .run) (hr : fr.roundOf = some l) (hk : fr.kind = .normal) (hl : LeavesBy fr jump) (hh : w.heap[l]? = some (.loop x)) :
    step P (lone fr (c :: rest) w) = .next (lone (c.finish (.bool jump.isNone)) rest { w with heap := w.heap.setIfInBounds l (.loop { x with state := if jump.isNone then .ready else .done, pending := jump }) }) := by
  have hrun := run_endRound (P := P) (jump := jump) hh
  refine step_lone_go ?_
  cases jump with
  | none =>
    have hl : fr.todo = [] := hl
    simp only [stepG, stepG.exec, hm, hl, hr, Sem.runT_eq, hrun, GStep.bare_after, doReturn, hk, GStep.bare_go]
  | some j =>
    cases j with
    | ret =>
      obtain ⟨k, hl⟩ := hl
      simp only [stepG, stepG.exec, hm, hl, hr, Sem.runT_eq, hrun, GStep.bare_after, doReturn, hk, GStep.bare_go]
    | exit id =>
      obtain ⟨k, hl, he⟩ := hl
      simp only [stepG, stepG.exec, hm, hl, hr, he, Option.elim_none, Sem.runT_eq, hrun, GStep.bare_after, doReturn, hk, GStep.bare_go]
    | goto id =>
      obtain ⟨k, hl, he⟩ := hl
      simp only [stepG, stepG.exec, hm, hl, hr, he, Option.elim_none, Sem.runT_eq, hrun, GStep.bare_after, doReturn, hk, GStep.bare_go]
    | _ => exact hl.elim
theorem st_beginRound (hm : fr.mode = .run) (hr : fr.roundOf = some l) (ht : fr.todo = .beginRound :: k) (hh : w.heap[l]? = some (.loop x)) (hs : x.state = .ready) :
    step P (lone fr cs w) = .next (lone { fr with todo := k } cs { w with heap := w.heap.setIfInBounds l (.loop { x with state := .busy }) }) := by
  refine step_lone_go ?_
  have hrun : ((do fr.roundOf.elim (stuck "beginRound: no round") Instr.beginRound; pure Next.skip) : Sem Next).run P w = .ok .skip { w with heap := w.heap.setIfInBounds l (.loop { x with state := .busy }) } := by
    rw [hr]
    simp only [Option.elim_some, Instr.beginRound, Sem.run_bind, run_getLoop hh, Result.andThen_ok, run_setLoop hh, hs, Sem.run_pure]
  have hfin : fr.finish undef = { fr with todo := k } := by simp [Frame.finish, ht]
  have e : stepG P true { frame := fr, callers := cs, status := .running, dying := none } w = stepG.apply P true fr cs none (do fr.roundOf.elim (stuck "beginRound: no round") Instr.beginRound; pure Next.skip) w := by
    simp only [stepG, stepG.exec, hm, ht]
  rw [e, ap_skip hrun, hfin]
theorem st_endLoop (hm : fr.mode = .run) (ht : fr.todo = .endRangeFunc l :: k) (hh : w.heap[l]? = some (.loop x)) (hs : x.state ≠ .busy) :
    step P (lone fr cs w) = .next (lone { fr with todo := (x.pending.map Item.code).toList ++ k } cs { w with heap := w.heap.setIfInBounds l (.loop { x with state := .exhausted }) }) := by
  refine step_lone_go ?_
  have hrun : (Instr.endLoop l).run P w = .ok x.pending { w with heap := w.heap.setIfInBounds l (.loop { x with state := .exhausted }) } := by
    have : (x.state == .busy) = false := by
      cases h : x.state <;> first | rfl | exact absurd h hs
    simp only [Instr.endLoop, Sem.run_bind, run_getLoop hh, Result.andThen_ok, this, Bool.false_eq_true, if_false, Sem.run_pure, run_setLoop hh]
  simp only [stepG, stepG.exec, hm, ht, Sem.runT_eq, hrun, GStep.bare_after, GStep.bare_go]
/-- the call at the head of a loop over a function -/
def loopCallSem (fr : Frame) (f : Operand) (l : Nat) : Sem Next := do
  let d ← resolve fr.eval { callee := .value f, args := #[.const (.func (.yield l) #[] #[])], argTypes := #[] } 0
  invoke d.target d.args
theorem stepG_loopFn {f : Operand} {ps : Array Tmp} {as b : Code} {mark : List Deferred} {w1 : World} (hm : fr.mode = .run) (ht : fr.todo = .code (.rangeFunc f ps as b) :: k)
    (hrun : (Instr.enterLoop fr.fn fr.tmps ps as b fr.roundOf).run P w = .ok (l, mark) w1) :
    (stepG P true { frame := fr, callers := cs, status := .running, dying := none } w).bare = (stepG.apply P true { fr with todo := .inRangeFunc l :: k, defers := mark ++ fr.defers } cs none (loopCallSem { fr with todo := .inRangeFunc l :: k, defers := mark ++ fr.defers } f l) w1).bare := by
  simp only [stepG, stepG.exec, hm, ht, Sem.runT_eq, hrun, GStep.bare_after]
  rfl
theorem run_enterLoop_new {fn : FuncId} {tmps : Array Value} {ps : Array Tmp} {as b : Code} : (Instr.enterLoop fn tmps ps as b none).run P w = .ok (w.heap.size + 1, [{ target := .collected w.heap.size, args := #[] }])
    { w with heap := (w.heap.push (.deferred (some []))).push (.loop { state := .ready, pending := none, fn, tmps, params := ps, assign := as, body := b, defers := w.heap.size }) } := by
  simp [Instr.enterLoop]
  rfl
theorem run_enterLoop_in {fn : FuncId} {tmps : Array Value} {ps : Array Tmp} {as b : Code} (hh : w.heap[l]? = some (.loop x)) : (Instr.enterLoop fn tmps ps as b (some l)).run P w = .ok (w.heap.size, [])
    { w with heap := w.heap.push (.loop { state := .ready, pending := none, fn, tmps, params := ps, assign := as, body := b, defers := x.defers }) } := by
  simp [Instr.enterLoop, run_getLoop hh]
  try rfl
end
section
variable {C : Cx} {P : Program} {self : Krun} (hself : RunOK P self) {M : MF} {T : Tr AV} {H : AH} {N : Nat}
include hself
/-- a frame is left -/
theorem leave_spec {jump : Option Code} (h : leaveA self jump M T H N = true) : Ok P (fun η fr cs => FBase η M T fr cs ∧ fr.mode = .run ∧ LeavesBy fr jump) H N M.k := by
  unfold leaveA at h
  split at h
  · rename_i hro
    have go : self M T .unw H N = true → (∀ (w : World) (fr : Frame) (cs : List Frame), fr.mode = .run → fr.roundOf = none → LeavesBy fr jump → step P (lone fr cs w) = .next (lone { fr with mode := .returning } cs w)) →
        Ok P (fun η fr cs => FBase η M T fr cs ∧ fr.mode = .run ∧ LeavesBy fr jump) H N M.k := by
      intro h hst
      refine (Moves.step fun η w fr cs hm hr => ?_).ok (hself M T .unw H N h)
      obtain ⟨hb, hmode, hl⟩ := hr
      have hrn : fr.roundOf = none := by have := hb.round; rw [hro] at this; exact this
      exact ⟨_, hst w fr cs hmode hrn hl, ⟨hb.mode _, rfl, hro⟩, rfl, rfl, rfl⟩
    split at h
    · exact go h fun w fr cs h1 h2 h3 => st_end h1 h2 h3
    · exact go h fun w fr cs h1 h2 ⟨k, h3⟩ => st_ret h1 h2 h3
    · cases h
  · rename_i l hro
    obtain ⟨x, hx, h⟩ := loopOf_spec (show AH.loopOf H l (fun x => Tr.set H l (some (.loop (loopBack x jump))) fun H => M.k (.ret (goesOn jump)) false H N) = true from h)
    obtain ⟨H', h, hH⟩ := Tr.set_spec h
    refine ⟨_, _, H', N, h, Nat.le_refl _, fun η w fr cs hm hf hr => ?_⟩
    obtain ⟨hb, hmode, hl⟩ := hr
    have hround := hb.round
    rw [hro] at hround
    obtain ⟨hk, ⟨c, rest, rfl⟩, p, hp, hrn⟩ := hround
    obtain ⟨q, lp, hq, h0, hlp, hh⟩ := mem_loop hm hx
    rw [hp] at hq; cases hq
    have hst := st_leave_round (P := P) (c := c) (rest := rest) hmode hrn hk hl hh
    refine ⟨η, { w with heap := w.heap.setIfInBounds p.1 (.loop { lp with state := if jump.isNone then .ready else .done, pending := jump }) }, write_loop hm hx hp h0 hh ?_ hH, ?_⟩
    · obtain ⟨e1, e2, e3, e4, e5, e6, hT, hd⟩ := hlp
      obtain ⟨s1, p1, fn1, T1, nt1, ps1, as1, b1, d1⟩ := x
      cases jump <;> exact ⟨rfl, rfl, e3, e4, e5, e6, hT, hd⟩
    · unfold Ends
      rw [hrn]
      exact ⟨c, rest, goesOn jump, .bool jump.isNone, .refl _ _, rfl, rfl, by cases jump <;> simp [goesOn, AV.γ], .one hst⟩
end
end Go.Proofs.YthidihigidchgaaGreatDoor.Sy

namespace Go.Proofs.YthidihigidchgaaGreatDoor.Sy
theorem push_two (A : Array Obj) (x y : Obj) : ((A.push x).push y)[A.size + 1]? = some y := by
  have : A.size + 1 = (A.push x).size := by simp
  rw [this, Array.getElem?_push_size]
section
variable {C : Cx} {P : Program} (hC : C.OKc P) {self : Krun} (hself : RunOK P self) (hrec : P.follows .rangeFuncRecover = true) (hmix : P.follows .mixedOrders = true) (hkn : KnownOK C P)
theorem itemsγ_mk {η : Env} {x : AItem} {y : Item} {r : List AItem} {k : List Item} (hx : itemγ η x = some y) (hr : itemsγ η r = some k) : itemsγ η (x :: r) = some (y :: k) := itemsγ_cons.2 ⟨y, k, hx, hr, rfl⟩
/-- a frame of a function, as the calculus has it -/
theorem fr_at {fr : Frame} (hm : fr.mode = .run) (hr : fr.roundOf = none) : fr.at ⟨fr.tmps, fr.defers⟩ fr.todo = fr := by
  obtain ⟨fn, tmps, todo, defers, mode, kind, ro⟩ := fr
  simp only at hm hr
  subst hm hr
  rfl
include hC hself hrec hmix hkn
theorem region_code {id : Nat} {oa : Array Oper} {dr : Bool} {r : List AItem} {M : MF} {T : Tr AV} {H : AH} {N : Nat} (h : cRegion id oa dr C self r M T H N = true) :
    Ok P (fun η fr cs => FRel η M T (.go (.code (.region id oa dr) :: r)) fr cs) H N M.k := by
  cases dr with
  | false =>
    refine (Moves.step fun η w fr cs hm hr => ?_).ok (regL_spec hC hself hrec hkn oa.toList 0 M T H N rfl (show regL C self oa.toList M oa.toList r T H N = true from h))
    obtain ⟨hb, hmode, ht⟩ := hr
    obtain ⟨y, k, hy, hk, e⟩ := itemsγ_cons.1 ht
    cases hy
    exact ⟨_, st_region hmode e, ⟨hb.todo _, hmode, k, hk, by simp [List.range_eq_range']⟩, rfl, rfl, rfl⟩
  | true =>
    have h : (match M.ro with
      | none => drawnA C M.nt (callIn C self) oa.toList T H N fun T H N => self M T (.go r) H N
      | some _ => false) = true := h
    split at h
    · rename_i hro
      obtain ⟨T', H1, N1, h, hle, hreg⟩ := drawnA_spec hC hmix (callIn_ok hC hself hkn) h
      refine Moves.ok ⟨hle, fun η w fr cs hm hf hr => ?_⟩ (hself _ _ _ _ _ h)
      obtain ⟨hb, hmode, ht⟩ := hr
      obtain ⟨y, k, hy, hk, e⟩ := itemsγ_cons.1 ht
      cases hy
      have hrn : fr.roundOf = none := by have := hb.round; rw [hro] at this; exact this
      have hwp := hreg η w ⟨fr.tmps, fr.defers⟩ hm hf hb.tmps (fun e a' w' => e = .normal ∧ ∃ η', Evo η H N w η' H1 N1 w' ∧ TRel η' T' M.nt a'.tmps ∧ a'.defers = fr.defers) (fun η' a' w' h1 h2 h3 => ⟨rfl, η', h1, h2, h3⟩) id
      obtain ⟨ex, a', w', ⟨rfl, η', he, hT', hd'⟩, harr⟩ := hwp fr k cs
      have hfr := fr_at hmode hrn
      rw [e] at hfr
      have harr : Steps P (lone (fr.at ⟨fr.tmps, fr.defers⟩ (.code (.region id oa true) :: k)) cs w) (lone (fr.at a' k) cs w') := harr
      rw [hfr] at harr
      refine ⟨η', w', fr.at a' k, cs, he, harr, ⟨⟨hb.fn, hT', ?_, ?_, ?_⟩, rfl, itemsγ_mono he.le hk⟩, ⟨rfl, rfl, hrn.symm⟩, .refl _ _⟩
      · rw [hro]; rfl
      · rw [show (fr.at a' k).defers = a'.defers from rfl, hd']; exact defsγ_mono he.le _ _ hb.defers
      · exact hb.kind.mono he.le
    · cases h
omit hC hrec hmix hkn in
theorem cond_code {x : Operand} {a b : Code} {r : List AItem} {M : MF} {T : Tr AV} {H : AH} {N : Nat} (h : cCond x a b C self r M T H N = true) :
    Ok P (fun η fr cs => FRel η M T (.go (.code (.cond x a b) :: r)) fr cs) H N M.k := by
  obtain ⟨v, h, hv⟩ := ev_spec (show ev x T (condA a b self r M T H N) = true from h)
  cases v with
  | bool t =>
    have go : self M T (.go (.code (if t then a else b) :: r)) H N = true := by cases t <;> exact h
    exact ctl_spec hself go fun η w fr cs k y hm hb hmode hy hk ht => by
      cases hy
      exact ⟨_, itemsγ_mk rfl hk, st_cond hmode ht (γ_bool (hv η _ _ hb.tmps))⟩
  | _ => cases h
omit hrec hmix hkn in
/-- a call at the head of a loop over a function, and all behind it -/
theorem loop_head {f : Operand} {r : List AItem} {M : MF} {T : Tr AV} {H : AH} {N l : Nat} (h : ev f T (loopFn C self M T r l H N) = true) : ∃ e b H' N', M.k e b H' N' = true ∧ N ≤ N' ∧
    ∀ η w (fr : Frame) cs p k, Mem η H w → Fresh η N N' → FBase η M T fr cs → fr.mode = .run → η.ρ l = some p → itemsγ η r = some k → fr.todo = .inRangeFunc p.1 :: k →
      ∃ w1 fr2 cs2, (stepG.apply P true fr cs none (loopCallSem fr f p.1) w).bare = .go { frame := fr2, callers := cs2, status := .running, dying := none } w1 ∧
        ∃ η' w' frx wx, Evo η H N w η' H' N' w' ∧ Steps P (lone fr2 cs2 w1) (lone frx cs wx) ∧ Same fr frx ∧ Ends P frx cs e b η' wx w' := by
  obtain ⟨fv, h, hfv⟩ := ev_spec h
  cases fv with
  | func fn first cap =>
    have h : appL first [.yield l] (fun args => invokeA C H N (.fn fn cap) args (loopCall C self M T r l)) = true := h
    rw [appL_eq] at h
    obtain ⟨x, H2, N2, hx, hle, hinv⟩ := invokeA_spec hC h
    cases x with
    | enter g args =>
      obtain ⟨e1, b1, H3, N3, hx, hcall⟩ := callGoes hC hself (show enterA C g args (frameOf none (loopEnd self M T r l) self H2 N2) = true from hx)
      cases e1 with
      | pan v => cases hx
      | ret v1 =>
      have hcall : Goes1 P (EnteredN P g args) H2 N2 (.ret v1) b1 H3 N3 := ⟨hcall.1, fun η w fr cs hm hf he => hcall.2 η w fr cs hm hf (by
        obtain ⟨ys, hy, rfl⟩ := he
        exact ⟨ys, .normal, hy, .inl rfl, rfl⟩)⟩
      obtain ⟨e, b, H', N', hv, hg⟩ := hself _ _ _ _ _ (show self M T (.go (.endRangeFunc l :: r)) H3 N3 = true from hx)
      have hN3 := hcall.1
      have hN' := hg.1
      refine ⟨e, b, H', N', hv, by omega, fun η w fr cs p k hm hf hb hmode hp hk ht => ?_⟩
      obtain ⟨hne, a, z, ha, hz, e'⟩ := γ_func (hfv η M.nt fr.tmps hb.tmps)
      have hy : (AV.yield l).γ η = some (.func (.yield p.1) #[] #[]) := by simp [AV.γ, hp]
      have hargs : γs η (first ++ [.yield l]) = some (a ++ [Value.func (.yield p.1) #[] #[]]) := γs_append ha (γs_cons_mk hy (γs_nil η))
      have hd : defγ η ⟨.fn fn cap, first ++ [.yield l]⟩ = some { target := .fn fn z.toArray, args := (a ++ [Value.func (.yield p.1) #[] #[]]).toArray } := by
        cases fn with
        | yield l => exact absurd rfl (hne l)
        | _ => simp only [defγ, hz, hargs]
      obtain ⟨η1, w1, he1, hres⟩ := hinv η w _ hm (hf.sub (Nat.le_refl _) (by omega)) hd
      obtain ⟨ys, hys, hrun⟩ := hres
      have hsem : (loopCallSem fr f p.1).run P w = .ok (.enter g ys.toArray) w1 := by
        unfold loopCallSem
        have hr : (resolve fr.eval { callee := .value f, args := #[.const (.func (.yield p.1) #[] #[])], argTypes := #[] } 0).run P w = .ok { target := .fn fn z.toArray, args := (a ++ [Value.func (.yield p.1) #[] #[]]).toArray } w := by
          simp only [resolve, eval_fr, e', Deferred.ofValue, Sem.run_pure]
          congr 2
          simp [evt]
        rw [Sem.run_bind, hr, Result.andThen_ok]
        exact hrun
      have hfr : Fresh η1 N2 N' := he1.fresh hf
      obtain ⟨η2, w2, y1, he2, hy1, hst⟩ := call_back hcall he1.mem (hfr.sub (Nat.le_refl _) (by omega)) hys fr cs
      have hfin : fr.finish y1 = { fr with todo := .endRangeFunc p.1 :: k } := by simp [Frame.finish, ht]
      have hb2 := hb.mono (he1.trans he2).le
      obtain ⟨η3, w3, he3, hend⟩ := hg.2 η2 w2 (fr.finish y1) cs he2.mem (he2.fresh hfr) (by
        rw [hfin]
        exact ⟨hb2.todo _, hmode, itemsγ_mk (by simp [itemγ, (he1.trans he2).le.ρ l p hp]) (itemsγ_mono (he1.trans he2).le hk)⟩)
      refine ⟨w1, _, _, ap_enter (fun d q s k' e => by rw [ht] at e; cases e) hsem, η3, w3, fr.finish y1, w2, (he1.trans he2).trans he3, hst, by rw [hfin]; exact ⟨rfl, rfl, rfl⟩, hend⟩
    | _ => cases hx
  | _ => cases h
omit hrec hmix hkn in
theorem loop_code {f : Operand} {ps : Array Tmp} {as b : Code} {r : List AItem} {M : MF} {T : Tr AV} {H : AH} {N : Nat} (h : cLoopFn f ps as b C self r M T H N = true) :
    Ok P (fun η fr cs => FRel η M T (.go (.code (.rangeFunc f ps as b) :: r)) fr cs) H N M.k := by
  obtain ⟨fn, nt, ro, ds, rc, rcd, kk⟩ := M
  cases ro with
  | some l =>
    obtain ⟨x, hx, h⟩ := loopOf_spec (show AH.loopOf H l (fun x => loopGo C self ⟨fn, nt, some l, ds, rc, rcd, kk⟩ T f ps as b r x.defers H N) = true from h)
    obtain ⟨H1, h, hH1⟩ := newObj_spec (show newObj H N (.loop ⟨.ready, none, fn, T, nt, ps, as, b, x.defers⟩) (fun H' N' => ev f T (loopFn C self ⟨fn, nt, some l, ds, rc, rcd, kk⟩ T r N H' N')) = true from h)
    obtain ⟨e0, b0, H', N', hv, hle, hg⟩ := loop_head hC hself h
    refine ⟨e0, b0, H', N', hv, by omega, fun η w fr cs hm hf hr => ?_⟩
    obtain ⟨hb, hmode, ht⟩ := hr
    obtain ⟨y, k, hy, hk, e⟩ := itemsγ_cons.1 ht
    cases hy
    obtain ⟨hkind, hcs, p, hp, hrn⟩ := hb.round
    obtain ⟨q, lp, hq, h0, hlp, hh⟩ := mem_loop hm hx
    rw [hp] at hq; cases hq
    have hrun := run_enterLoop_in (P := P) (fn := fr.fn) (tmps := fr.tmps) (ps := ps) (as := as) (b := b) hh
    obtain ⟨e1, e2, e3, e4, e5, e6, hT, d, hd, e7⟩ := hlp
    have hfN := hf.sub (Nat.le_refl N) (show N + 1 ≤ N' by omega)
    have he1 : Evo η H N w (η.bind N (w.heap.size, 0) none) H1 (N + 1) { w with heap := w.heap.push (.loop { state := .ready, pending := none, fn := fr.fn, tmps := fr.tmps, params := ps, assign := as, body := b, defers := lp.defers }) } := by
      have hle := Env.bind_le (p := (w.heap.size, 0)) (c := none) (hfN N (Nat.le_refl _) (Nat.lt_succ_self _))
      exact Evo.alloc hm hfN none _ _ hH1 rfl ⟨rfl, { state := .ready, pending := none, fn := fr.fn, tmps := fr.tmps, params := ps, assign := as, body := b, defers := lp.defers }, ⟨rfl, rfl, hb.fn, rfl, rfl, rfl, hb.tmps.mono hle, d, hle.ρ _ _ hd, e7⟩, by simp⟩
    obtain ⟨w1, fr2, cs2, hap, η', w', frx, wx, he2, hst, hs, hend⟩ := hg _ _ { fr with todo := .inRangeFunc w.heap.size :: k, defers := [] ++ fr.defers } cs (w.heap.size, 0) k he1.mem (he1.fresh hf) ((hb.mono he1.le).todo _) hmode (Env.bind_ρ ..) (itemsγ_mono he1.le hk) rfl
    refine ⟨η', w', he1.trans he2, Ends.of_steps (.head (step_lone_go ?_) hst) ⟨hs.fn, hs.kind, hs.round⟩ (.refl _ _) hend⟩
    rw [stepG_loopFn hmode e (by rw [hrn]; exact hrun)]
    exact hap
  | none =>
    obtain ⟨H1, h, hH1⟩ := newObj_spec (show newObj H N (.deferred (some [])) (fun H' N' => loopGo C self ⟨fn, nt, none, ⟨.collected N, []⟩ :: ds, rc, rcd, kk⟩ T f ps as b r N H' N') = true from h)
    obtain ⟨H2, h, hH2⟩ := newObj_spec (show newObj H1 (N + 1) (.loop ⟨.ready, none, fn, T, nt, ps, as, b, N⟩) (fun H' N' => ev f T (loopFn C self ⟨fn, nt, none, ⟨.collected N, []⟩ :: ds, rc, rcd, kk⟩ T r (N + 1) H' N')) = true from h)
    obtain ⟨e0, b0, H', N', hv, hle, hg⟩ := loop_head hC hself h
    refine ⟨e0, b0, H', N', hv, by omega, fun η w fr cs hm hf hr => ?_⟩
    obtain ⟨hb, hmode, ht⟩ := hr
    obtain ⟨y, k, hy, hk, e⟩ := itemsγ_cons.1 ht
    cases hy
    have hrn : fr.roundOf = none := hb.round
    have hrun := run_enterLoop_new (P := P) (w := w) (fn := fr.fn) (tmps := fr.tmps) (ps := ps) (as := as) (b := b)
    have hfN := hf.sub (Nat.le_refl N) (show N + 1 ≤ N' by omega)
    have he1 : Evo η H N w (η.bind N (w.heap.size, 0) none) H1 (N + 1) { w with heap := w.heap.push (.deferred (some [])) } :=
      Evo.alloc hm hfN none _ _ hH1 rfl ⟨rfl, [], rfl, by simp⟩
    have hf1 : Fresh (η.bind N (w.heap.size, 0) none) (N + 1) N' := he1.fresh hf
    have hfN1 := hf1.sub (Nat.le_refl (N + 1)) (show N + 1 + 1 ≤ N' by omega)
    have hρ : (η.bind N (w.heap.size, 0) none).ρ N = some (w.heap.size, 0) := Env.bind_ρ ..
    have hb1 := hb.mono he1.le
    have hle2 := Env.bind_le (p := (w.heap.size + 1, 0)) (c := none) (hfN1 (N + 1) (Nat.le_refl _) (Nat.lt_succ_self _))
    have he2 : Evo (η.bind N (w.heap.size, 0) none) H1 (N + 1) { w with heap := w.heap.push (.deferred (some [])) } ((η.bind N (w.heap.size, 0) none).bind (N + 1) (w.heap.size + 1, 0) none) H2 (N + 1 + 1)
        { w with heap := (w.heap.push (.deferred (some []))).push (.loop { state := .ready, pending := none, fn := fr.fn, tmps := fr.tmps, params := ps, assign := as, body := b, defers := w.heap.size }) } := by
      have hs : ({ w with heap := w.heap.push (.deferred (some [])) } : World).heap.size = w.heap.size + 1 := by simp
      have := Evo.alloc (o := .loop { state := .ready, pending := none, fn := fr.fn, tmps := fr.tmps, params := ps, assign := as, body := b, defers := w.heap.size }) (w' := { w with heap := (w.heap.push (.deferred (some []))).push (.loop { state := .ready, pending := none, fn := fr.fn, tmps := fr.tmps, params := ps, assign := as, body := b, defers := w.heap.size }) }) he1.mem hfN1 none _ hH2 rfl
      rw [hs] at this
      exact this ⟨rfl, { state := .ready, pending := none, fn := fr.fn, tmps := fr.tmps, params := ps, assign := as, body := b, defers := w.heap.size }, ⟨rfl, rfl, hb.fn, rfl, rfl, rfl, hb1.tmps.mono hle2, (w.heap.size, 0), hle2.ρ _ _ hρ, rfl⟩, push_two _ _ _⟩
    have he := he1.trans he2
    have hb3 := hb1.mono he2.le
    have hbd : FBase ((η.bind N (w.heap.size, 0) none).bind (N + 1) (w.heap.size + 1, 0) none) ⟨fn, nt, none, ⟨.collected N, []⟩ :: ds, rc, rcd, kk⟩ T { fr with todo := .inRangeFunc (w.heap.size + 1) :: k, defers := [{ target := .collected w.heap.size, args := #[] }] ++ fr.defers } cs := by
      have hdf := hb3.defers
      refine ⟨hb3.fn, hb3.tmps, hb3.round, ?_, hb3.kind⟩
      have hρ2 := hle2.ρ _ _ hρ
      simp only [defsγ, hdf, defγ, hρ2, γs_nil]
      rfl
    obtain ⟨w1, fr2, cs2, hap, η', w', frx, wx, he3, hst, hs, hend⟩ := hg _ _ { fr with todo := .inRangeFunc (w.heap.size + 1) :: k, defers := [{ target := .collected w.heap.size, args := #[] }] ++ fr.defers } cs (w.heap.size + 1, 0) k he2.mem (he2.fresh hf1) hbd hmode (Env.bind_ρ ..) (itemsγ_mono he.le hk) rfl
    refine ⟨η', w', he.trans he3, Ends.of_steps (.head (step_lone_go ?_) hst) ⟨hs.fn, hs.kind, hs.round⟩ (.refl _ _) hend⟩
    rw [stepG_loopFn hmode e (by rw [hrn]; exact hrun)]
    exact hap
end
end Go.Proofs.YthidihigidchgaaGreatDoor.Sy

namespace Go.Proofs.YthidihigidchgaaGreatDoor.Sy
section
variable {P : Program} {fr : Frame} {cs : List Frame} {w w' : World} {d : Deferred} {ds : List Deferred}
theorem st_collected {b : Nat} {a : Array Value} (hm : fr.mode = .returning) (hd : fr.defers = { target := .collected b, args := a } :: ds) (hh : w.heap[b]? = some (.deferred (some []))) :
    step P (lone fr cs w) = .next (lone { fr with defers := ds } cs { w with heap := w.heap.setIfInBounds b (.deferred none) }) := by
  refine step_lone_go ?_
  have hrun : (Instr.takeDeferred b).run P w = .ok [] { w with heap := w.heap.setIfInBounds b (.deferred none) } := by
    have h1 : (getObj b).run P w = .ok (.deferred (some [])) w := by simp [getObj, Sem.run, hh]
    have h2 : (setObj b (.deferred none)).run P w = .ok () { w with heap := w.heap.setIfInBounds b (.deferred none) } := by simp [setObj, Sem.run, hh]
    simp only [Instr.takeDeferred, Sem.run_bind, h1, Result.andThen_ok, h2, Sem.run_pure]
  simp [stepG, Go.unwind, hm, hd, hrun]
theorem st_deferred_enter {f : FuncId} {args : Array Value} (hm : fr.mode = .returning) (hd : fr.defers = d :: ds) (ht : ∀ b, d.target ≠ .collected b) (hrun : (invoke d.target d.args).run P w = .ok (.enter f args) w') :
    step P (lone fr cs w) = .next (lone (Frame.enter P f args .deferred) ({ fr with defers := ds } :: cs) w') := by
  obtain ⟨t, a⟩ := d
  refine step_lone_go ?_
  cases t with
  | collected b => exact absurd rfl (ht b)
  | _ => all_goals (simp only at hrun; simp [stepG, Go.unwind, callDeferred, hm, hd, hrun])
theorem st_deferred_pan {f : FuncId} {args : Array Value} {ch : List PanicEntry} {fv : Fn} {cap : Array Value} (hm : fr.mode = .panicking ch) (hd : fr.defers = d :: ds) (ht : d.target = .fn fv cap) (hrun : (invoke d.target d.args).run P w = .ok (.enter f args) w') :
    step P (lone fr cs w) = .next (lone (Frame.enter P f args .deferred) ({ fr with defers := ds } :: cs) w') := by
  obtain ⟨t, a⟩ := d
  simp only at ht hrun
  subst ht
  refine step_lone_go ?_
  simp [stepG, Go.unwind, callDeferred, hm, hd, hrun]
theorem st_deferred_value {y : Value} (hm : fr.mode = .returning) (hd : fr.defers = d :: ds) (ht : ∀ b, d.target ≠ .collected b) (hrun : (invoke d.target d.args).run P w = .ok (.value y) w') :
    step P (lone fr cs w) = .next (lone { fr with defers := ds } cs w') := by
  obtain ⟨t, a⟩ := d
  refine step_lone_go ?_
  cases t with
  | collected b => exact absurd rfl (ht b)
  | _ => all_goals (simp only at hrun; simp [stepG, Go.unwind, callDeferred, hm, hd, hrun])
theorem st_deferred_skip (hm : fr.mode = .returning) (hd : fr.defers = d :: ds) (ht : ∀ b, d.target ≠ .collected b) (hrun : (invoke d.target d.args).run P w = .ok .skip w') :
    step P (lone fr cs w) = .next (lone { fr with defers := ds } cs w') := by
  obtain ⟨t, a⟩ := d
  refine step_lone_go ?_
  cases t with
  | collected b => exact absurd rfl (ht b)
  | _ => all_goals (simp only at hrun; simp [stepG, Go.unwind, callDeferred, hm, hd, hrun])
end
section
variable {C : Cx} {P : Program} (hC : C.OKc P) {self : Krun} (hself : RunOK P self)
include hC
/-- what one result variable reads -/
def readRes (tmps : Array Value) : ResultVar → Sem Value
  | .tmp t => pure (tmps.getD t undef)
  | .cell a t => do loadVar t (← asAddr (tmps.getD a undef))
theorem resultsA_spec {H : AH} {T : Tr AV} : ∀ (l : List ResultVar) {k : List AV → Bool}, resultsA C H T l k = true → ∃ vs, k vs = true ∧ ∀ η w nt tmps, Mem η H w → TRel η T nt tmps →
    ∃ ys, γs η vs = some ys ∧ (l.mapM (readRes tmps)).run P w = .ok ys w
  | [], k, h => ⟨[], h, fun η w nt tmps _ _ => ⟨[], γs_nil η, by simp⟩⟩
  | .tmp t :: r, k, h => by
    obtain ⟨v, hv, h⟩ := Tr.get_spec (show Tr.get T t (fun v => resultsA C H T r fun l => k (v :: l)) = true from h)
    obtain ⟨vs, hk, hr⟩ := resultsA_spec r h
    refine ⟨v :: vs, hk, fun η w nt tmps hm hT => ?_⟩
    obtain ⟨ys, hys, hrun⟩ := hr η w nt tmps hm hT
    obtain ⟨y, hy, ht⟩ := hT.at_ t v hv
    refine ⟨y :: ys, γs_cons_mk hy hys, ?_⟩
    have e : tmps.getD t undef = y := by simp [Array.getD_eq_getD_getElem?, ht]
    simp [List.mapM_cons, readRes, e, hrun]
  | .cell a t :: r, k, h => by
    obtain ⟨v, hv, h⟩ := Tr.get_spec (show Tr.get T a (fun v => ldA C H t v fun v => resultsA C H T r fun l => k (v :: l)) = true from h)
    obtain ⟨u, h, hld⟩ := ldA_spec (P := P) hC.toOK' h
    obtain ⟨vs, hk, hr⟩ := resultsA_spec r h
    refine ⟨u :: vs, hk, fun η w nt tmps hm hT => ?_⟩
    obtain ⟨ys, hys, hrun⟩ := hr η w nt tmps hm hT
    obtain ⟨y, hy, ht⟩ := hT.at_ a v hv
    obtain ⟨z, hz, _, ad, ead, hload⟩ := hld η w y hm hy
    refine ⟨z :: ys, γs_cons_mk hz hys, ?_⟩
    have e : tmps.getD a undef = .pointer (some ad) := by simp [Array.getD_eq_getD_getElem?, ht, ead]
    simp [List.mapM_cons, readRes, e, asAddr, hload, hrun]
theorem resultA_spec {H : AH} {fn : FuncId} {T : Tr AV} {k : AV → Bool} (h : resultA C H fn T k = true) : ∃ v f, k v = true ∧ P.funcs[fn]? = some f ∧ ∀ η w nt tmps, Mem η H w → TRel η T nt tmps → ∃ y, v.γ η = some y ∧ (results f tmps).run P w = .ok y w := by
  obtain ⟨f, hf, h⟩ := Tr.get_spec (show Tr.get C.fns fn (fun fn => resultsA C H T fn.results.toList fun l => match l with | [v] => k v | l => k (.tuple l)) = true from h)
  obtain ⟨vs, h, hr⟩ := resultsA_spec hC _ h
  have hres : ∀ tmps, results f tmps = (do let vs ← (fun l => l.toArray) <$> (f.results.toList.mapM (readRes tmps)); pure (if h : vs.size = 1 then vs[0] else .tuple vs)) := fun tmps => by
    unfold results
    rw [Array.mapM_eq_mapM_toList]
    rfl
  have run : ∀ {η w nt tmps}, Mem η H w → TRel η T nt tmps → ∃ ys, γs η vs = some ys ∧ (results f tmps).run P w = .ok (if h : ys.toArray.size = 1 then ys.toArray[0] else .tuple ys.toArray) w := fun {η w nt tmps} hm hT => by
    obtain ⟨ys, hys, hrun⟩ := hr η w nt tmps hm hT
    refine ⟨ys, hys, ?_⟩
    rw [hres]
    simp [hrun]
  rcases vs with _ | ⟨u, _ | ⟨v, r⟩⟩
  · refine ⟨.tuple [], f, h, hC.fn _ _ hf, fun η w nt tmps hm hT => ?_⟩
    obtain ⟨ys, hys, hrun⟩ := run hm hT
    have := γs_length hys
    have : ys = [] := List.length_eq_zero_iff.1 (by simpa using this)
    subst this
    exact ⟨.tuple #[], by simp [AV.γ, γs_nil], by simpa using hrun⟩
  · refine ⟨u, f, h, hC.fn _ _ hf, fun η w nt tmps hm hT => ?_⟩
    obtain ⟨ys, hys, hrun⟩ := run hm hT
    obtain ⟨y, hy, rfl⟩ := γs1 hys
    exact ⟨y, hy, by simpa using hrun⟩
  · refine ⟨.tuple (u :: v :: r), f, h, hC.fn _ _ hf, fun η w nt tmps hm hT => ?_⟩
    obtain ⟨ys, hys, hrun⟩ := run hm hT
    have := γs_length hys
    have hne : ¬ ys.toArray.size = 1 := by simp; simp at this; omega
    rw [dif_neg hne] at hrun
    exact ⟨_, by simp [AV.γ, hys], hrun⟩
end
end Go.Proofs.YthidihigidchgaaGreatDoor.Sy

namespace Go.Proofs.YthidihigidchgaaGreatDoor.Sy
section
variable {C : Cx} {P : Program} (hC : C.OKc P) {self : Krun} (hself : RunOK P self) (hrec : P.follows .rangeFuncRecover = true) (hmix : P.follows .mixedOrders = true) (hkn : KnownOK C P)
include hself
theorem begin_item {r : List AItem} {M : MF} {T : Tr AV} {H : AH} {N : Nat} (h : stepBegin C self r M T H N = true) :
    Ok P (fun η fr cs => FRel η M T (.go (.beginRound :: r)) fr cs) H N M.k := by
  unfold stepBegin at h
  split at h
  · cases h
  · rename_i l hro
    obtain ⟨x, hx, h⟩ := loopOf_spec h
    cases hs : x.state with
    | ready =>
      rw [hs] at h
      obtain ⟨H1, h, hH1⟩ := Tr.set_spec (show Tr.set H l (some (.loop (loopAs x .busy))) (fun H => self M T (.go r) H N) = true from h)
      refine Moves.ok ⟨Nat.le_refl _, fun η w fr cs hm hf hr => ?_⟩ (hself _ _ _ _ _ h)
      obtain ⟨hb, hmode, ht⟩ := hr
      obtain ⟨y, k, hy, hk, e⟩ := itemsγ_cons.1 ht
      cases hy
      have hround := hb.round
      rw [hro] at hround
      obtain ⟨hkd, hcs, p, hp, hrn⟩ := hround
      obtain ⟨q, lp, hq, h0, hlp, hh⟩ := mem_loop hm hx
      rw [hp] at hq; cases hq
      have hlp' := hlp
      obtain ⟨e1, e2, e3, e4, e5, e6, hT, hd⟩ := hlp
      refine ⟨η, { w with heap := w.heap.setIfInBounds p.1 (.loop { lp with state := .busy }) }, _, cs, write_loop (l' := loopAs x .busy) hm hx hp h0 hh ?_ hH1, .one (st_beginRound hmode hrn e hh (e1.trans hs)), ⟨hb.todo k, hmode, hk⟩, ⟨rfl, rfl, rfl⟩, .refl _ _⟩
      obtain ⟨s1, p1, fn1, T1, nt1, ps1, as1, b1, d1⟩ := x
      exact ⟨rfl, e2, e3, e4, e5, e6, hT, hd⟩
    | _ => rw [hs] at h; cases h
theorem end_item {l : Nat} {r : List AItem} {M : MF} {T : Tr AV} {H : AH} {N : Nat} (h : stepEnd l C self r M T H N = true) :
    Ok P (fun η fr cs => FRel η M T (.go (.endRangeFunc l :: r)) fr cs) H N M.k := by
  obtain ⟨x, hx, h⟩ := loopOf_spec (show AH.loopOf H l (fun x => match x.state with
    | .busy => false
    | _ => Tr.set H l (some (.loop (loopAs x .exhausted))) fun H => match x.pending with
      | none => self M T (.go r) H N
      | some c => self M T (.go (.code c :: r)) H N) = true from h)
  have h : x.state ≠ .busy ∧ Tr.set H l (some (.loop (loopAs x .exhausted))) (fun H => self M T (.go ((x.pending.map AItem.code).toList ++ r)) H N) = true := by
    cases hs : x.state <;> rw [hs] at h
    case busy => cases h
    all_goals
      refine ⟨by simp, ?_⟩
      cases hp : x.pending <;> rw [hp] at h <;> exact h
  obtain ⟨hne, h⟩ := h
  obtain ⟨H1, h, hH1⟩ := Tr.set_spec h
  refine Moves.ok ⟨Nat.le_refl _, fun η w fr cs hm hf hr => ?_⟩ (hself _ _ _ _ _ h)
  obtain ⟨hb, hmode, ht⟩ := hr
  obtain ⟨y, k, hy, hk, e⟩ := itemsγ_cons.1 ht
  simp only [itemγ, Option.map_eq_some_iff] at hy
  obtain ⟨p, hp, rfl⟩ := hy
  obtain ⟨q, lp, hq, h0, hlp, hh⟩ := mem_loop hm hx
  rw [hp] at hq; cases hq
  obtain ⟨e1, e2, e3, e4, e5, e6, hT, hd⟩ := hlp
  refine ⟨η, { w with heap := w.heap.setIfInBounds p.1 (.loop { lp with state := .exhausted }) }, _, cs, write_loop (l' := loopAs x .exhausted) hm hx hp h0 hh ?_ hH1, .one (st_endLoop hmode e hh (by rw [e1]; exact hne)), ⟨hb.todo _, hmode, ?_⟩, ⟨rfl, rfl, rfl⟩, .refl _ _⟩
  · obtain ⟨s1, p1, fn1, T1, nt1, ps1, as1, b1, d1⟩ := x
    exact ⟨rfl, e2, e3, e4, e5, e6, hT, hd⟩
  · rw [e2]
    cases x.pending with
    | none => exact hk
    | some c => exact itemsγ_mk rfl hk
include hC hrec hmix hkn
theorem code_item {c : Code} {r : List AItem} {M : MF} {T : Tr AV} {H : AH} {N : Nat} (h : stepCode c C self r M T H N = true) :
    Ok P (fun η fr cs => FRel η M T (.go (.code c :: r)) fr cs) H N M.k := by
  cases c with
  | skip => exact ctl_spec hself (show self M T (.go r) H N = true from h) fun η w fr cs k y hm hb hmode hy hk ht => by cases hy; exact ⟨_, hk, st_skip hmode ht⟩
  | region id oa dr => exact region_code hC hself hrec hmix hkn h
  | seq a b => exact ctl_spec hself (show self M T (.go (.code a :: .code b :: r)) H N = true from h) fun η w fr cs k y hm hb hmode hy hk ht => by cases hy; exact ⟨_, itemsγ_mk rfl (itemsγ_mk rfl hk), st_seq hmode ht⟩
  | cond x a b => exact cond_code (C := C) hself h
  | block id b => exact ctl_spec hself (show self M T (.go (.code b :: .inBlock id :: r)) H N = true from h) fun η w fr cs k y hm hb hmode hy hk ht => by cases hy; exact ⟨_, itemsγ_mk rfl (itemsγ_mk rfl hk), st_block hmode ht⟩
  | loop b => exact ctl_spec hself (show self M T (.go (.code b :: .inLoop b :: r)) H N = true from h) fun η w fr cs k y hm hb hmode hy hk ht => by cases hy; exact ⟨_, itemsγ_mk rfl (itemsγ_mk rfl hk), st_loop hmode ht⟩
  | rangeFunc f ps as b => exact loop_code hC hself h
  | exit id =>
    rcases exitToA_spec r (show exitToA id r (fun r => self M T (.go r) H N) (leaveA self (some (.exit id)) M T H N) = true from h) with ⟨r', h, hr⟩ | ⟨h, hr⟩
    · exact ctl_spec hself h fun η w fr cs k y hm hb hmode hy hk ht => by
        cases hy
        obtain ⟨k', hk', he⟩ := hr η k hk
        exact ⟨k', hk', st_exit hmode ht he⟩
    · obtain ⟨e0, b0, H', N', hv, hle, hg⟩ := leave_spec hself h
      refine ⟨e0, b0, H', N', hv, hle, fun η w fr cs hm hf hfr => hg η w fr cs hm hf ?_⟩
      obtain ⟨hb, hmode, ht⟩ := hfr
      obtain ⟨y, k, hy, hk, e⟩ := itemsγ_cons.1 ht
      cases hy
      exact ⟨hb, hmode, k, e, hr η k hk⟩
  | scope b => exact ctl_spec hself (show self M T (.go (.code b :: .inScope b :: r)) H N = true from h) fun η w fr cs k y hm hb hmode hy hk ht => by cases hy; exact ⟨_, itemsγ_mk rfl (itemsγ_mk rfl hk), st_scope hmode ht⟩
  | label l => exact ctl_spec hself (show self M T (.go r) H N = true from h) fun η w fr cs k y hm hb hmode hy hk ht => by cases hy; exact ⟨_, hk, st_label hmode ht⟩
  | goto l =>
    rcases gotoInA_spec r (show gotoInA l r (fun r => self M T (.go r) H N) (leaveA self (some (.goto l)) M T H N) = true from h) with ⟨r', h, hr⟩ | ⟨h, hr⟩
    · exact ctl_spec hself h fun η w fr cs k y hm hb hmode hy hk ht => by
        cases hy
        obtain ⟨k', hk', he⟩ := hr η k hk
        exact ⟨k', hk', st_goto hmode ht he⟩
    · obtain ⟨e0, b0, H', N', hv, hle, hg⟩ := leave_spec hself h
      refine ⟨e0, b0, H', N', hv, hle, fun η w fr cs hm hf hfr => hg η w fr cs hm hf ?_⟩
      obtain ⟨hb, hmode, ht⟩ := hfr
      obtain ⟨y, k, hy, hk, e⟩ := itemsγ_cons.1 ht
      cases hy
      exact ⟨hb, hmode, k, e, hr η k hk⟩
  | ret =>
    obtain ⟨e0, b0, H', N', hv, hle, hg⟩ := leave_spec hself (show leaveA self (some .ret) M T H N = true from h)
    refine ⟨e0, b0, H', N', hv, hle, fun η w fr cs hm hf hfr => hg η w fr cs hm hf ?_⟩
    obtain ⟨hb, hmode, ht⟩ := hfr
    obtain ⟨y, k, hy, hk, e⟩ := itemsγ_cons.1 ht
    cases hy
    exact ⟨hb, hmode, k, e⟩
  | refuse w => cases h
theorem run_item {todo : List AItem} {M : MF} {T : Tr AV} {H : AH} {N : Nat} (h : stepRun todo C self M T H N = true) :
    Ok P (fun η fr cs => FRel η M T (.go todo) fr cs) H N M.k := by
  cases todo with
  | nil =>
    obtain ⟨e0, b0, H', N', hv, hle, hg⟩ := leave_spec hself (show leaveA self none M T H N = true from h)
    refine ⟨e0, b0, H', N', hv, hle, fun η w fr cs hm hf hfr => hg η w fr cs hm hf ?_⟩
    obtain ⟨hb, hmode, ht⟩ := hfr
    exact ⟨hb, hmode, (Option.some.inj ht).symm⟩
  | cons it r =>
    have h : stepItem it C self r M T H N = true := h
    cases it with
    | code c => exact code_item hC hself hrec hmix hkn h
    | inBlock id => exact ctl_spec hself (show self M T (.go r) H N = true from h) fun η w fr cs k y hm hb hmode hy hk ht => by cases hy; exact ⟨_, hk, st_inBlock hmode ht⟩
    | inLoop b => exact ctl_spec hself (show self M T (.go (.code b :: .inLoop b :: r)) H N = true from h) fun η w fr cs k y hm hb hmode hy hk ht => by cases hy; exact ⟨_, itemsγ_mk rfl (itemsγ_mk rfl hk), st_inLoop hmode ht⟩
    | inScope b => exact ctl_spec hself (show self M T (.go r) H N = true from h) fun η w fr cs k y hm hb hmode hy hk ht => by cases hy; exact ⟨_, hk, st_inScope hmode ht⟩
    | inRegion a b => cases h
    | endRangeFunc l => exact end_item (C := C) hself h
    | beginRound => exact begin_item (C := C) hself h
end
end Go.Proofs.YthidihigidchgaaGreatDoor.Sy

namespace Go.Proofs.YthidihigidchgaaGreatDoor.Sy
section
variable {C : Cx} {P : Program} (hC : C.OKc P) {self : Krun} (hself : RunOK P self)
include hC hself
theorem defer_item {d : ADef} {fn : FuncId} {nt : Nat} {ro : Option Nat} {ds : List ADef} {rc : Option AV} {rcd : Bool} {k : Kend} {T : Tr AV} {H : AH} {N : Nat} (h : dfrOne C self d ⟨fn, nt, ro, ds, rc, rcd, k⟩ T H N = true) :
    Ok P (fun η fr cs => FRel η ⟨fn, nt, ro, d :: ds, rc, rcd, k⟩ T .unw fr cs) H N k := by
  obtain ⟨t, args⟩ := d
  -- the frame without the first deferred call
  have less : ∀ {η : Env} {fr : Frame} {cs : List Frame}, FRel η ⟨fn, nt, ro, ⟨t, args⟩ :: ds, rc, rcd, k⟩ T .unw fr cs → ∃ d' l, defγ η ⟨t, args⟩ = some d' ∧ fr.defers = d' :: l ∧ FRel η ⟨fn, nt, ro, ds, rc, rcd, k⟩ T .unw { fr with defers := l } cs := by
    intro η fr cs hr
    obtain ⟨hb, hmode, hro⟩ := hr
    have hd := hb.defers
    simp only [defsγ] at hd
    split at hd
    · rename_i d' l hd' hl
      exact ⟨d', l, hd', (Option.some.inj hd).symm, ⟨hb.fn, hb.tmps, hb.round, hl, hb.kind⟩, hmode, hro⟩
    · cases hd
  have go : (∀ b, t ≠ .collected b) → invokeA C H N t args (dfrGo C self ⟨fn, nt, ro, ds, rc, rcd, k⟩ T) = true →
      Ok P (fun η fr cs => FRel η ⟨fn, nt, ro, ⟨t, args⟩ :: ds, rc, rcd, k⟩ T .unw fr cs) H N k := by
    intro htc h
    obtain ⟨x, H1, N1, hx, hle, hinv⟩ := invokeA_spec hC h
    have htc' : ∀ {η : Env} {d' : Deferred}, defγ η ⟨t, args⟩ = some d' → ∀ b, d'.target ≠ .collected b := by
      intro η d' hd b
      cases t with
      | collected c => exact absurd rfl (htc c)
      | fn f cap =>
        cases f with
        | yield l => simp [defγ] at hd
        | _ =>
          simp only [defγ] at hd
          split at hd
          · simp only [Option.some.injEq] at hd; subst hd; simp
          · cases hd
      | yield l =>
        simp only [defγ] at hd
        split at hd
        · simp only [Option.some.injEq] at hd; subst hd; simp
        · cases hd
      | builtin b' ts ty cs =>
        simp only [defγ] at hd
        split at hd
        · simp only [Option.some.injEq] at hd; subst hd; simp
        · cases hd
    cases x with
    | enter f ar =>
      obtain ⟨e1, b1, H2, N2, hx, hcall⟩ := callGoes hC hself (show enterA C f ar (frameOf none (dfrEnd self ⟨fn, nt, ro, ds, rc, rcd, k⟩ T) self H1 N1) = true from hx)
      cases e1 with
      | pan v => cases hx
      | ret v1 =>
      cases b1 with
      | true => cases hx
      | false =>
      refine Moves.ok ⟨Nat.le_trans hle hcall.1, fun η w fr cs hm hf hr => ?_⟩ (hself _ _ _ _ _ (show self ⟨fn, nt, ro, ds, rc, rcd, k⟩ T .unw H2 N2 = true from hx))
      obtain ⟨d', l, hd', hfd, hr'⟩ := less hr
      obtain ⟨η1, w1, he1, ys, hys, hrun⟩ := hinv η w d' hm (hf.sub (Nat.le_refl _) hcall.1) hd'
      obtain ⟨η2, w2, he2, hst⟩ := call_back_deferred hcall he1.mem (he1.fresh hf) hys { fr with defers := l } hr.2.1 cs
      refine ⟨η2, w2, { fr with defers := l }, cs, he1.trans he2, .head (st_deferred_enter hr.2.1 hfd (htc' hd') hrun) hst, ?_, ⟨rfl, rfl, rfl⟩, .refl _ _⟩
      exact ⟨hr'.1.mono (he1.trans he2).le, hr'.2⟩
    | val y =>
      refine Moves.ok ⟨hle, fun η w fr cs hm hf hr => ?_⟩ (hself _ _ _ _ _ (show self ⟨fn, nt, ro, ds, rc, rcd, k⟩ T .unw H1 N1 = true from hx))
      obtain ⟨d', l, hd', hfd, hr'⟩ := less hr
      obtain ⟨η1, w1, he1, y', hy', hrun⟩ := hinv η w d' hm hf hd'
      exact ⟨η1, w1, { fr with defers := l }, cs, he1, .one (st_deferred_value hr.2.1 hfd (htc' hd') hrun), ⟨hr'.1.mono he1.le, hr'.2⟩, ⟨rfl, rfl, rfl⟩, .refl _ _⟩
    | skip =>
      refine Moves.ok ⟨hle, fun η w fr cs hm hf hr => ?_⟩ (hself _ _ _ _ _ (show self ⟨fn, nt, ro, ds, rc, rcd, k⟩ T .unw H1 N1 = true from hx))
      obtain ⟨d', l, hd', hfd, hr'⟩ := less hr
      obtain ⟨η1, w1, he1, hrun⟩ := hinv η w d' hm hf hd'
      exact ⟨η1, w1, { fr with defers := l }, cs, he1, .one (st_deferred_skip hr.2.1 hfd (htc' hd') hrun), ⟨hr'.1.mono he1.le, hr'.2⟩, ⟨rfl, rfl, rfl⟩, .refl _ _⟩
    | _ => cases hx
  cases t with
  | collected id =>
    obtain ⟨o, ho, h⟩ := Tr.get_spec (show Tr.get H id (fun o => match o with
      | .deferred (some []) => Tr.set H id (some (.deferred none)) fun H => self ⟨fn, nt, ro, ds, rc, rcd, k⟩ T .unw H N
      | _ => false) = true from h)
    split at h
    · obtain ⟨H1, h, hH1⟩ := Tr.set_spec h
      refine Moves.ok ⟨Nat.le_refl _, fun η w fr cs hm hf hr => ?_⟩ (hself _ _ _ _ _ h)
      obtain ⟨d', l, hd', hfd, hr'⟩ := less hr
      obtain ⟨p, hp, h0, l', hl', hh⟩ := hm.objs id _ ho
      have hl' : l' = [] := by simpa [defsγ] using hl'.symm
      subst hl'
      simp only [defγ] at hd'
      split at hd'
      · rename_i q a hq ha
        rw [hp] at hq; cases hq
        simp only [Option.some.injEq] at hd'
        subst hd'
        refine ⟨η, { w with heap := w.heap.setIfInBounds p.1 (.deferred none) }, { fr with defers := l }, cs, Evo.write hm ho hp _ hH1 rfl ⟨h0, setIB_same hh _⟩ (fun y e => by rw [hh] at e; cases e; rfl), .one (st_collected hr.2.1 hfd hh), hr', ⟨rfl, rfl, rfl⟩, .refl _ _⟩
      · cases hd'
    · cases h
  | fn f cap => exact go (fun b e => by cases e) h
  | yield l => exact go (fun b e => by cases e) h
  | builtin b ts ty cs => exact go (fun b e => by cases e) h
/-- a deferred call while a panic is on its way -/
theorem pdf_item {d : ADef} {fn : FuncId} {nt : Nat} {ds : List ADef} {rc : Option AV} {rcd : Bool} {k : Kend} {T : Tr AV} {H : AH} {N : Nat} {u : AV} (h : pdfOne C self d ⟨fn, nt, none, ds, rc, rcd, k⟩ T u H N = true) :
    Ok P (fun η fr cs => FRel η ⟨fn, nt, none, d :: ds, rc, rcd, k⟩ T (.pan u) fr cs) H N k := by
  obtain ⟨t, args⟩ := d
  cases t with
  | fn fv cap =>
    obtain ⟨x, H1, N1, hx, hle, hinv⟩ := invokeA_spec hC (show invokeA C H N (.fn fv cap) args (pdfGo C self ⟨fn, nt, none, ds, rc, rcd, k⟩ T u) = true from h)
    cases x with
    | enter f ar =>
      obtain ⟨e1, b1, H2, N2, hx, hcall⟩ := callGoes hC hself (show enterA C f ar (frameOf (some u) (pdfEnd self ⟨fn, nt, none, ds, rc, rcd, k⟩ T u) self H1 N1) = true from hx)
      cases e1 with
      | pan v => cases hx
      | ret v1 =>
      have key : self ⟨fn, nt, none, ds, rc, rcd, k⟩ T (if b1 then .unw else .pan u) H2 N2 = true := by cases b1 <;> exact hx
      refine Moves.ok ⟨Nat.le_trans hle hcall.1, fun η w fr cs hm hf hr => ?_⟩ (hself _ _ _ _ _ key)
      obtain ⟨hb, ⟨z, hz, hmode⟩, hro⟩ := hr
      have hd := hb.defers
      simp only [defsγ] at hd
      split at hd
      · rename_i d' l hd' hl
        have hfd : fr.defers = d' :: l := (Option.some.inj hd).symm
        have htc : ∃ fv' cap', d'.target = .fn fv' cap' := by
          cases fv with
          | yield l => simp [defγ] at hd'
          | _ =>
            simp only [defγ] at hd'
            split at hd'
            · simp only [Option.some.injEq] at hd'; subst hd'; exact ⟨_, _, rfl⟩
            · cases hd'
        obtain ⟨fv', cap', htc⟩ := htc
        obtain ⟨η1, w1, he1, ys, hys, hrun⟩ := hinv η w d' hm (hf.sub (Nat.le_refl _) hcall.1) hd'
        obtain ⟨η2, w2, he2, hst⟩ := call_back_pan hcall he1.mem (he1.fresh hf) hys { fr with defers := l } (γ_mono he1.le _ _ hz) hmode cs
        have hstep : step P (lone fr cs w) = .next (lone (Frame.enter P f ys.toArray .deferred) ({ fr with defers := l } :: cs) w1) :=
          st_deferred_pan hmode hfd htc hrun
        have hb' : FBase η2 ⟨fn, nt, none, ds, rc, rcd, k⟩ T { fr with defers := l } cs := FBase.mono (he1.trans he2).le ⟨hb.fn, hb.tmps, hb.round, hl, hb.kind⟩
        cases b1 with
        | true => exact ⟨η2, w2, { fr with defers := l, mode := .returning }, cs, he1.trans he2, .head hstep hst, ⟨hb'.mode _, rfl, rfl⟩, ⟨rfl, rfl, rfl⟩, .refl _ _⟩
        | false => exact ⟨η2, w2, { fr with defers := l }, cs, he1.trans he2, .head hstep hst, ⟨hb', ⟨z, γ_mono (he1.trans he2).le _ _ hz, hmode⟩, rfl⟩, ⟨rfl, rfl, rfl⟩, .refl _ _⟩
      · cases hd
    | _ => cases hx
  | _ => cases h
theorem unwind_item {M : MF} {T : Tr AV} {H : AH} {N : Nat} (h : unwind C self M T H N = true) : Ok P (fun η fr cs => FRel η M T .unw fr cs) H N M.k := by
  obtain ⟨fn, nt, ro, ds, rc, rcd, k⟩ := M
  cases ds with
  | cons d ds => exact defer_item hC hself (show dfrOne C self d ⟨fn, nt, ro, ds, rc, rcd, k⟩ T H N = true from h)
  | nil =>
    cases ro with
    | some l => cases h
    | none =>
      obtain ⟨v, f, hv, hf, hr⟩ := resultA_spec hC (show resultA C H fn T (fun v => k (.ret v) rcd H N) = true from h)
      refine ⟨.ret v, rcd, H, N, hv, Nat.le_refl _, fun η w fr cs hm hfr hrel => ?_⟩
      obtain ⟨hb, hmode, _⟩ := hrel
      obtain ⟨y, hy, hrun⟩ := hr η w nt fr.tmps hm hb.tmps
      have hrn : fr.roundOf = none := hb.round
      refine ⟨η, w, .refl hm, ?_⟩
      unfold Ends
      rw [hrn]
      have hdf : fr.defers = [] := by
        have := hb.defers
        simpa [defsγ] using this.symm
      exact ⟨fr, cs, .refl P _, .refl _ _, rfl, rfl, hdf, hb.kind.fin, y, f, hy, hmode, by rw [hb.fn]; exact hf, hrun⟩
theorem unwindP_item {M : MF} {T : Tr AV} {H : AH} {N : Nat} {u : AV} (h : unwindP u C self M T H N = true) : Ok P (fun η fr cs => FRel η M T (.pan u) fr cs) H N M.k := by
  obtain ⟨fn, nt, ro, ds, rc, rcd, k⟩ := M
  cases ro with
  | some l => cases h
  | none =>
    cases ds with
    | cons d ds => exact pdf_item hC hself (show pdfOne C self d ⟨fn, nt, none, ds, rc, rcd, k⟩ T u H N = true from h)
    | nil =>
      cases rc with
      | some v => cases h
      | none =>
        cases rcd with
        | true => cases h
        | false =>
          obtain ⟨f, hfn, h⟩ := Tr.get_spec (show Tr.get C.fns fn (fun _ => k (.pan u) false H N) = true from h)
          have hf := hC.fn _ _ hfn
          refine ⟨.pan u, false, H, N, h, Nat.le_refl _, fun η w fr cs hm hfr hrel => ?_⟩
          obtain ⟨hb, ⟨y, hy, hmode⟩, _⟩ := hrel
          have hrn : fr.roundOf = none := hb.round
          refine ⟨η, w, .refl hm, ?_⟩
          unfold Ends
          rw [hrn]
          have hdf : fr.defers = [] := by
            have := hb.defers
            simpa [defsγ] using this.symm
          exact ⟨fr, cs, .refl P _, .refl _ _, rfl, rfl, hdf, hb.kind.fin, y, f, hy, hmode, by rw [hb.fn]; exact hf⟩
end
/-- the runner is right -/
theorem run_ok {C : Cx} {P : Program} (hC : C.OKc P) (hrec : P.follows .rangeFuncRecover = true) (hmix : P.follows .mixedOrders = true) (hkn : KnownOK C P) : ∀ fuel, RunOK P (run C fuel)
  | 0 => fun M T pos H N h => by cases h
  | n + 1 => fun M T pos H N h => by
    have hself := run_ok hC hrec hmix hkn n
    cases pos with
    | go todo => exact run_item hC hself hrec hmix hkn (show stepRun todo C (run C n) M T H N = true from h)
    | unw => exact unwind_item hC hself (show unwind C (run C n) M T H N = true from h)
    | pan u => exact unwindP_item hC hself (show unwindP u C (run C n) M T H N = true from h)
/-- a function without parameters that the runner takes to 'true' -/
theorem enter_from {C : Cx} {P : Program} (hC : C.OKc P) (hrec : P.follows .rangeFuncRecover = true) (hmix : P.follows .mixedOrders = true) (hkn : KnownOK C P) {f : FuncId} {fuel : Nat} {H : AH} {N : Nat} (h : enterA C f [] (frameOf none isTrue (run C fuel) H N) = true) (w : World)
    (η : Env) (hη : Mem η H w) (hf : ∀ i, N ≤ i → η.ρ i = none ∧ η.κ i = none) :
    Calls P f #[] w fun e w' => e = .returned (.bool true) ∧ Like w w' ∧ w.heap.size ≤ w'.heap.size ∧ ∀ b, b < w.heap.size → ¬ Mine η H b → w'.heap[b]? = w.heap[b]? := by
  intro cs
  obtain ⟨e, b, H', N', hv, hle, hg⟩ := callGoes hC (run_ok hC hrec hmix hkn fuel) h
  obtain ⟨η', w', hevo, hend⟩ := hg η w (Frame.enter P f #[] .normal) cs hη (fun i h1 _ => hf i h1) ⟨[], .normal, γs_nil _, .inl rfl, rfl⟩
  have hv : e = .ret (.bool true) := by
    unfold isTrue at hv
    split at hv
    · rfl
    · cases hv
  subst hv
  obtain ⟨fr', cs', hst, ht, h1, h2, h3, h4, y, fn, hyv, h5, h6, h7⟩ := hend
  have ht := ht.normal rfl
  subst ht
  have := γ_bool hyv
  subst this
  exact ⟨.returned (.bool true), w', fr', ⟨rfl, hevo.like, hevo.size, hevo.keep⟩, hst, h1, h5, h3, h2, fn, by rw [h1]; exact h6, h7⟩
theorem enter_true {C : Cx} {P : Program} (hC : C.OKc P) (hrec : P.follows .rangeFuncRecover = true) (hmix : P.follows .mixedOrders = true) (hkn : KnownOK C P) {f : FuncId} {fuel : Nat} (h : enterA C f [] (frameOf none isTrue (run C fuel) .e 0) = true) (w : World) :
    Calls P f #[] w fun e w' => e = .returned (.bool true) ∧ Like w w' ∧ w.heap.size ≤ w'.heap.size ∧ ∀ b, b < w.heap.size → w'.heap[b]? = w.heap[b]? :=
  (enter_from hC hrec hmix hkn h w ⟨fun _ => none, fun _ => none, fun _ => undef⟩ ⟨fun q o e => (by rw [Tr.look_e] at e; cases e), fun q _ o _ _ _ e => (by rw [Tr.look_e] at e; cases e)⟩ (fun i _ => ⟨rfl, rfl⟩)).mono
    fun e w' ⟨h1, h2, h3, h4⟩ => ⟨h1, h2, h3, fun b hb => h4 b hb fun ⟨i, o, p, hi, _⟩ => by rw [Tr.look_e] at hi; cases hi⟩
theorem enterG_true {C : Cx} {P : Program} (hC : C.OKc P) (hrec : P.follows .rangeFuncRecover = true) (hmix : P.follows .mixedOrders = true) (hkn : KnownOK C P) {f : FuncId} {fuel b t hd o : Nat} (h : newObj .e 0 (.glob b t hd o) (fun H N => enterA C f [] (frameOf none isTrue (run C fuel) H N)) = true) (w : World)
    (hw : ∃ cs el fr, w.heap[b]? = some (.cells cs el fr) ∧ cs[0]? = some (.iface t (.agg #[.pointer (some ⟨hd, o, none⟩)]))) :
    Calls P f #[] w fun e w' => e = .returned (.bool true) ∧ Like w w' ∧ w.heap.size ≤ w'.heap.size ∧ ∀ b, b < w.heap.size → w'.heap[b]? = w.heap[b]? := by
  obtain ⟨H, h, hl⟩ := newObj_spec h
  have only : ∀ q o', Tr.look H q = some o' → q = 0 ∧ o' = .glob b t hd o := fun q o' e => by
    rw [hl] at e
    split at e
    · rename_i e0; cases e; exact ⟨e0, rfl⟩
    · rw [Tr.look_e] at e; cases e
  refine (enter_from hC hrec hmix hkn h w ⟨fun i => if i = 0 then some (b, 0) else none, fun _ => none, fun _ => undef⟩ ⟨fun q o' e => ?_, fun q q' o1 o2 p1 p2 e1 e2 _ _ _ => ?_⟩ (fun i hi => ⟨by simp; omega, rfl⟩)).mono
    fun e w' ⟨h1, h2, h3, h4⟩ => ⟨h1, h2, h3, fun b' hb => h4 b' hb fun ⟨i, o', p, hi, ho, _⟩ => ?_⟩
  · obtain ⟨rfl, rfl⟩ := only q o' e
    exact ⟨(b, 0), by simp, rfl, hw⟩
  · rw [(only q o1 e1).1, (only q' o2 e2).1]
  · obtain ⟨_, rfl⟩ := only i o' hi
    cases ho
end Go.Proofs.YthidihigidchgaaGreatDoor.Sy

namespace Go.Proofs.YthidihigidchgaaGreatDoor.Sy
/-! The tables are right. -/
structure TIok (p : Program) (x : TypeInfo) (i : TI) : Prop where
  info : i.info = x
  size : i.size = x.size
  agg : i.agg = aggDesc i.desc
  desc : (∃ n u j, x.desc = .named n u ∧ p.types.toList[u]? = some j ∧ i.desc = j.desc) ∨ ((∀ n u, x.desc ≠ .named n u) ∧ i.desc = x.desc)
theorem tiOf_spec {p : Program} {x : TypeInfo} {k : TI → Bool} (h : tiOf p x k = true) : ∃ i, k i = true ∧ TIok p x i := by
  have mk : ∀ (d : TypeDesc) (b : Bool), b = aggDesc d → (fzNat x.size fun n => k ⟨n, b, d, x⟩) = true → k ⟨x.size, aggDesc d, d, x⟩ = true := by
    intro d b e h
    rw [fzNat_eq, e] at h
    exact h
  unfold tiOf at h
  split at h
  · rename_i n u hd
    split at h
    · rename_i j hj
      exact ⟨_, mk j.desc _ (by generalize j.desc = d; cases d <;> rfl) h, rfl, rfl, rfl, .inl ⟨n, u, j, hd, hj, rfl⟩⟩
    · cases h
  · rename_i hd
    exact ⟨_, mk x.desc _ (by generalize x.desc = d; cases d <;> rfl) h, rfl, rfl, rfl, .inr ⟨fun n u e => hd n u e, rfl⟩⟩
theorem typesL_spec {p : Program} : ∀ (l : List TypeInfo) (n : Nat) (t : Tr TI) (k : Tr TI → Bool), typesL p l n t k = true → ∃ t', k t' = true ∧ ∀ q i, Tr.look t' q = some i → Tr.look t q = some i ∨ ∃ x, n ≤ q ∧ l[q - n]? = some x ∧ TIok p x i
  | [], n, t, k, h => ⟨t, h, fun q i e => .inl e⟩
  | x :: r, n, t, k, h => by
    obtain ⟨i, h, hi⟩ := tiOf_spec (show tiOf p x (fun x => Tr.set t n (some x) fun t => fzNat (Nat.succ n) fun n => typesL p r n t k) = true from h)
    obtain ⟨t1, h, hl⟩ := Tr.set_spec h
    rw [fzNat_eq] at h
    obtain ⟨t', hk, ht⟩ := typesL_spec r (n + 1) t1 k h
    refine ⟨t', hk, fun q j e => ?_⟩
    rcases ht q j e with e | ⟨y, h1, h2, h3⟩
    · rw [hl] at e
      split at e
      · rename_i eq; cases e
        exact .inr ⟨x, by omega, by rw [eq]; simp, hi⟩
      · exact .inl e
    · refine .inr ⟨y, by omega, ?_, h3⟩
      rw [show q - n = (q - (n + 1)) + 1 from by omega]
      simpa using h2
theorem extL_spec : ∀ (l : List (Nat × Ext)) (t : Tr Ext) (k : Tr Ext → Bool), extL l t k = true → ∃ t', k t' = true ∧ ∀ f e, Tr.look t' f = some e → Tr.look t f = some e ∨ (f, e) ∈ l
  | [], t, k, h => ⟨t, h, fun f e h => .inl h⟩
  | (g, x) :: r, t, k, h => by
    obtain ⟨t1, h, hl⟩ := Tr.set_spec (show Tr.set t g (some x) (fun t => extL r t k) = true from h)
    obtain ⟨t', hk, ht⟩ := extL_spec r t1 k h
    refine ⟨t', hk, fun f e he => ?_⟩
    rcases ht f e he with h1 | h1
    · rw [hl] at h1
      split at h1
      · rename_i eq; cases h1; exact .inr (by rw [eq]; simp)
      · exact .inl h1
    · exact .inr (by simp [h1])
/-- what is asked of a program, that the kernel looks at -/
def namesOK : List Func → Bool
  | [] => true
  | f :: r => match f.body with
    | none => namesOK r
    | some _ => match f.name == "runtime.NumGoroutine" with
      | true => false
      | false => namesOK r
theorem namesOK_spec : ∀ (l : List Func), namesOK l = true → ∀ (f : Nat) (fn : Func) (c : Code), l[f]? = some fn → fn.body = some c → (fn.name == "runtime.NumGoroutine") = false
  | [], _, f, fn, c, h, _ => by simp at h
  | x :: r, h, f, fn, c, hf, hb => by
    cases f with
    | zero =>
      simp only [List.getElem?_cons_zero, Option.some.injEq] at hf
      subst hf
      simp only [namesOK, hb] at h
      split at h
      · cases h
      · assumption
    | succ f =>
      refine namesOK_spec r ?_ f fn c (by simpa using hf) hb
      simp only [namesOK] at h
      split at h
      · exact h
      · split at h
        · cases h
        · exact h
def fieldsOK (n : Nat) : List Field → Bool
  | [] => true
  | f :: r => match Nat.ble (Nat.succ f.type) n with
    | true => fieldsOK n r
    | false => false
theorem fieldsOK_spec {n : Nat} : ∀ (l : List Field), fieldsOK n l = true → ∀ f ∈ l, f.type < n
  | [], _, f, hf => by cases hf
  | x :: r, h, f, hf => by
    simp only [fieldsOK] at h
    split at h
    · rename_i hb
      rcases List.mem_cons.1 hf with rfl | hf
      · exact Nat.le_of_ble_eq_true hb
      · exact fieldsOK_spec r h f hf
    · cases h
def structsOK (n : Nat) : List TypeInfo → Bool
  | [] => true
  | i :: r => match i.desc with
    | .struct fs => match fieldsOK n fs.toList with
      | true => structsOK n r
      | false => false
    | _ => structsOK n r
theorem structsOK_spec {n : Nat} : ∀ (l : List TypeInfo), structsOK n l = true → ∀ i ∈ l, ∀ fs, i.desc = .struct fs → ∀ f ∈ fs, f.type < n
  | [], _, i, hi, _, _, _, _ => by cases hi
  | x :: r, h, i, hi, fs, hd, f, hf => by
    have both : (∀ fs, x.desc = .struct fs → ∀ f ∈ fs, f.type < n) ∧ structsOK n r = true := by
      simp only [structsOK] at h
      split at h
      · rename_i gs hg
        split at h
        · rename_i hok
          refine ⟨fun fs e f hf => ?_, h⟩
          rw [hg] at e; cases e
          exact fieldsOK_spec _ hok f (by simpa using hf)
        · cases h
      · rename_i hno
        exact ⟨fun fs e => absurd e (hno fs), h⟩
    rcases List.mem_cons.1 hi with rfl | hi
    · exact both.1 fs hd f hf
    · exact structsOK_spec r both.2 i hi fs hd f hf
def ExtFact (p : Program) (f : Nat) (e : Ext) : Prop := ∃ fn, p.funcs[f]? = some fn ∧ (fn.name == "runtime.NumGoroutine") = false ∧ fn.body.isNone = true ∧ Extern.findNext fn = none ∧ Extern.find fn = some (extSem e)
theorem knL_spec : ∀ (l : List (Nat × KnownF)) (t : Tr KnownF) (k : Tr KnownF → Bool), knL l t k = true → ∃ t', k t' = true ∧ ∀ f e, Tr.look t' f = some e → Tr.look t f = some e ∨ (f, e) ∈ l
  | [], t, k, h => ⟨t, h, fun f e h => .inl h⟩
  | (g, x) :: r, t, k, h => by
    obtain ⟨t1, h, hl⟩ := Tr.set_spec (show Tr.set t g (some x) (fun t => knL r t k) = true from h)
    obtain ⟨t', hk, ht⟩ := knL_spec r t1 k h
    refine ⟨t', hk, fun f e he => ?_⟩
    rcases ht f e he with h1 | h1
    · rw [hl] at h1
      split at h1
      · rename_i eq; cases h1; exact .inr (by rw [eq]; simp)
      · exact .inl h1
    · exact .inr (by simp [h1])
theorem mkCx_spec {p : Program} {xs : List (Nat × Ext)} {ks : List (Nat × KnownF)} {k : Cx → Bool} (h : mkCx p xs ks k = true) (hd : 30 ≤ p.depth) (hn : namesOK p.funcs.toList = true) (hs : structsOK p.types.size p.types.toList = true) (hx : ∀ f e, (f, e) ∈ xs → ExtFact p f e) :
    ∃ C, k C = true ∧ C.OKc p ∧ ∀ f e, Tr.look C.kns f = some e → (f, e) ∈ ks := by
  obtain ⟨a, h, ha⟩ := typesL_spec _ _ _ _ (show typesL p p.types.toList 0 .e (fun a => Tr.ofList p.funcs.toList 0 .e fun b => extL xs .e fun x => knL ks .e fun n => k ⟨p, a, b, x, n⟩) = true from h)
  obtain ⟨b, h, hb⟩ := Tr.ofList_spec _ _ _ _ h
  obtain ⟨x, h, hxx⟩ := extL_spec _ _ _ h
  obtain ⟨n, h, hkk⟩ := knL_spec _ _ _ h
  have hinfo : ∀ (t : Nat) i, p.types.toList[t]? = some i → p.info? t = some i := fun t i e => by
    have hlt : t < p.types.size := by simpa using get_lt e
    unfold Tables.info?
    rw [if_pos hlt]
    simpa using e
  have hty : ∀ t i, Tr.look a t = some i → ∃ x, p.types.toList[t]? = some x ∧ TIok p x i := fun t i e => by
    rcases ha t i e with e | ⟨x, h1, h2, h3⟩
    · rw [Tr.look_e] at e; cases e
    · exact ⟨x, by simpa using h2, h3⟩
  have hund : ∀ t x i, p.types.toList[t]? = some x → TIok p x i → p.underlying t = some i.desc := fun t x i hx hi => by
    have h1 := hinfo t x hx
    obtain ⟨xd, xs, xz, xb, xp, xa, xf, xze, xc, xm⟩ := x
    rcases hi.desc with ⟨n, u, j, e1, e2, e3⟩ | ⟨h2, e3⟩
    · have h2 := hinfo u j e2
      simp only at e1
      subst e1
      unfold Program.underlying
      rw [h1]
      simp only [h2, Option.map_some, e3]
    · simp only at h2 e3
      unfold Program.underlying
      rw [h1, e3]
      cases xd <;> first | rfl | exact absurd rfl (h2 _ _)
  refine ⟨⟨p, a, b, x, n⟩, h, ⟨⟨⟨rfl, fun t i e => ?_⟩, hd, fun t i fs e hfs f hf => ?_⟩, fun f fn e => ?_, fun f fn c e hbd => ?_, fun f e he args w => ?_⟩, fun f e he => (hkk f e he).elim (fun h => by rw [Tr.look_e] at h; cases h) id⟩
  · obtain ⟨x, hx, hi⟩ := hty t i e
    exact ⟨by rw [hinfo t x hx, hi.info], hund t x i hx hi, by rw [hi.info]; exact hi.size, hi.agg⟩
  · obtain ⟨x, hx, hi⟩ := hty t i e
    have hlt : f.type < p.types.size := by
      rcases hi.desc with ⟨n, u, j, e1, e2, e3⟩ | ⟨_, e3⟩
      · exact structsOK_spec _ hs j (List.mem_of_getElem? e2) fs (by rw [← e3]; exact hfs) f hf
      · exact structsOK_spec _ hs x (List.mem_of_getElem? hx) fs (by rw [← e3]; exact hfs) f hf
    have hsome : p.types.toList[f.type]? = some (p.types[f.type]) := by simp
    exact ⟨_, by rw [hinfo _ _ hsome]; rfl⟩
  · have e : Tr.look b f = some fn := e
    rw [hb] at e
    split at e
    · simpa using e
    · rw [Tr.look_e] at e; cases e
  · exact namesOK_spec _ hn f fn c (by simpa using e) hbd
  · have he : Tr.look x f = some e := he
    rcases hxx f e he with he | he
    · rw [Tr.look_e] at he; cases he
    · obtain ⟨fn, h1, h2, h3, h4, h5⟩ := hx f e he
      exact run_callFunc_extern h1 h2 h3 h4 h5 args w
/-- what is asked of a function whose answer is known -/
def KnownFact (p : Program) (f : Nat) (e : KnownF) : Prop := ∀ C, C.OKc p → ∀ args H N k no, knownA C e args H N k no = true → no = true ∨ ∃ v H' N', k v H' N' = true ∧ N ≤ N' ∧
  ∀ η w ys, Mem η H w → Fresh η N N' → γs η args = some ys → Calls p f ys.toArray w fun e w' => ∃ η' y, e = .returned y ∧ v.γ η' = some y ∧ Evo η H N w η' H' N' w'
/-- a function without parameters that the runner takes to 'true' -/
theorem top_calls {p : Program} {xs : List (Nat × Ext)} {ks : List (Nat × KnownF)} {f : FuncId} {fuel : Nat} (h : top p xs ks f fuel = true) (hd : 30 ≤ p.depth) (hn : namesOK p.funcs.toList = true) (hs : structsOK p.types.size p.types.toList = true) (hx : ∀ f e, (f, e) ∈ xs → ExtFact p f e)
    (hk : ∀ f e, (f, e) ∈ ks → KnownFact p f e) (hrec : p.follows .rangeFuncRecover = true) (hmix : p.follows .mixedOrders = true) (w : World) :
    Calls p f #[] w fun e w' => e = .returned (.bool true) ∧ Like w w' ∧ w.heap.size ≤ w'.heap.size ∧ ∀ b, b < w.heap.size → w'.heap[b]? = w.heap[b]? := by
  obtain ⟨C, h, hC, hkn⟩ := mkCx_spec (show mkCx p xs ks (fun C => enterA C f [] (frameOf none isTrue (run C fuel) .e 0)) = true from h) hd hn hs hx
  exact enter_true hC hrec hmix (fun f e he => hk f e (hkn f e he) C hC) h w
/-- the same, where one variable of a package is known to hold a type's handle -/
theorem topG_calls {p : Program} {xs : List (Nat × Ext)} {ks : List (Nat × KnownF)} {f : FuncId} {fuel b t hdl o : Nat} (h : topG p xs ks f fuel b t hdl o = true) (hd : 30 ≤ p.depth) (hn : namesOK p.funcs.toList = true) (hs : structsOK p.types.size p.types.toList = true) (hx : ∀ f e, (f, e) ∈ xs → ExtFact p f e)
    (hk : ∀ f e, (f, e) ∈ ks → KnownFact p f e) (hrec : p.follows .rangeFuncRecover = true) (hmix : p.follows .mixedOrders = true) (w : World)
    (hw : ∃ cs el fr, w.heap[b]? = some (.cells cs el fr) ∧ cs[0]? = some (.iface t (.agg #[.pointer (some ⟨hdl, o, none⟩)]))) :
    Calls p f #[] w fun e w' => e = .returned (.bool true) ∧ Like w w' ∧ w.heap.size ≤ w'.heap.size ∧ ∀ b, b < w.heap.size → w'.heap[b]? = w.heap[b]? := by
  obtain ⟨C, h, hC, hkn⟩ := mkCx_spec (show mkCx p xs ks (fun C => newObj .e 0 (.glob b t hdl o) fun H N => enterA C f [] (frameOf none isTrue (run C fuel) H N)) = true from h) hd hn hs hx
  exact enterG_true hC hrec hmix (fun f e he => hk f e (hkn f e he) C hC) h w hw
/-- a function that is known to return 'true' -/
theorem yes_fact {p : Program} {f : Nat} (h : ∀ w, Calls p f #[] w fun e w' => e = .returned (.bool true) ∧ Like w w' ∧ w.heap.size ≤ w'.heap.size ∧ ∀ b, b < w.heap.size → w'.heap[b]? = w.heap[b]?) : KnownFact p f .yes := by
  intro C hC args H N k no hk
  cases args with
  | cons a r => cases hk
  | nil =>
    refine .inr ⟨.bool true, H, N, hk, Nat.le_refl _, fun η w ys hm hf hy => ?_⟩
    rw [γs_nil] at hy
    cases hy
    refine (h w).mono fun e w' ⟨h1, h2, h3, h4⟩ => ⟨η, .bool true, h1, rfl, .refl η, fun _ _ => ⟨rfl, rfl⟩, Nat.le_refl _, ⟨fun i o ho => ?_, hm.inj⟩, h3, fun b hb _ => h4 b hb, fun b hb => .inl hb, fun b hb => .inl hb, h2⟩
    obtain ⟨q, hq, hh⟩ := hm.objs i o ho
    exact ⟨q, hq, hh.mono (.refl η) (h4 _ hh.lt)⟩
end Go.Proofs.YthidihigidchgaaGreatDoor.Sy

namespace Go.Proofs.YthidihigidchgaaGreatDoor.Sy
/-! Functions whose answer is known: errors.As at a struct of two cells. -/
/-- blocks that are nobody's come, nothing else turns -/
theorem Evo.more {η : Env} {H : AH} {N : Nat} {w w' : World} (hm : Mem η H w) (hh : ∀ b, b < w.heap.size → w'.heap[b]? = w.heap[b]?) (hl : Like w w') : Evo η H N w η H N w' :=
  ⟨.refl η, fun _ _ => ⟨rfl, rfl⟩, Nat.le_refl _, ⟨fun i o ho => let ⟨q, hq, hx⟩ := hm.objs i o ho; ⟨q, hq, hx.mono (.refl η) (hh _ hx.lt)⟩, hm.inj⟩, hl.size, fun b hb _ => hh b hb, fun _ h => .inl h, fun _ h => .inl h, hl⟩
theorem stA_spec {C : Cx} {P : Program} (hC : C.OK' P) {H : AH} {N : Nat} {t : TypeId} {a x : AV} {k : AH → Bool} (h : stA C H t a x k = true) : ∃ H', k H' = true ∧
    ∀ η w ad x', Mem η H w → a.γ η = some (.pointer (some ad)) → x.γ η = some x' → ∃ w', Evo η H N w η H' N w' ∧ (storeVar t ad x').run P w = .ok () w' := by
  unfold stA at h
  split at h
  · rename_i i o
    obtain ⟨ob, hob, hk⟩ := Tr.get_spec h
    unfold AObj.onCells at hk
    split at hk
    · rename_i vs ext pl
      obtain ⟨xs, hxs, hcs⟩ := cellsOf_spec hk
      obtain ⟨n, hn, hsz⟩ := size_spec hC.toOK hxs
      rw [lenL_eq] at hn
      split at hn
      · rename_i hnm
        have hnm := Nat.eq_of_beq_eq_true hnm
        obtain ⟨vs', hvs', hlaid, hone⟩ := wrK_spec _ _ _ _ hn
        obtain ⟨H', hH', hlook⟩ := Tr.set_spec hvs'
        refine ⟨H', hH', fun η w ad x' hm ha hx => ?_⟩
        obtain ⟨p, hp, hpa⟩ := γ_ptr ha
        cases hpa
        obtain ⟨ys, hys, hyc⟩ := hcs η _ hx
        obtain ⟨w', hr, he⟩ := write_cells (P := P) (N := N) hm hob hp hlaid hone hys hlook
        refine ⟨w', he, ?_⟩
        have hl : ys.length = n := by rw [γs_length hys]; omega
        simp only [Sem.run_bind, Sem.run_pure, Result.andThen_ok, storeVar, run_sizeOf w hsz, hyc]
        simp [hl, hr]
      · cases hn
    · cases hk
  · cases h
theorem isGlob_spec {H : AH} {b t h o : Nat} {k : Bool} (e : isGlob H b t h o k = true) : Tr.look H 0 = some (.glob b t h o) ∧ k = true := by
  obtain ⟨ob, hob, hk⟩ := Tr.get_spec e
  split at hk
  · split at hk
    · rename_i hb
      obtain ⟨h1, h2⟩ := band hb
      obtain ⟨h3, h4⟩ := band h1
      obtain ⟨h5, h6⟩ := band h2
      cases nbeq h3; cases nbeq h4; cases nbeq h5; cases nbeq h6
      exact ⟨hob, hk⟩
    · cases hk
  · cases hk
/-- errors.As, where the error's type is the target's element: it is found -/
theorem asErr_fact {p : Program} {f b t hd o te tt : Nat} (hw : ∀ (x y : Value) (ad : Addr) (w : World), w.cell? ⟨b, 0, none⟩ = some (.iface t (.agg #[.pointer (some ⟨hd, o, none⟩)])) → ∃ W : World, (∀ c, c < w.heap.size → W.heap[c]? = w.heap[c]?) ∧ Like w W ∧
    ∀ W', (storeVar te ad (.agg #[x, y])).run p W = .ok () W' → Calls p f #[.iface te (.agg #[x, y]), .iface tt (.pointer (some ad))] w fun e w' => e = .returned (.bool true) ∧ w' = W') : KnownFact p f (.asErr b t hd o te tt) := by
  intro C hC args H N k no hk
  unfold knownA at hk
  simp only at hk
  split at hk
  · rename_i te' c d tt' i q
    split at hk
    · rename_i hty
      obtain ⟨h1, h2⟩ := band hty
      cases nbeq h1; cases nbeq h2
      obtain ⟨hob, hst⟩ := isGlob_spec hk
      obtain ⟨H', hk', hrun⟩ := stA_spec (P := p) hC.toOK' (N := N) hst
      refine .inr ⟨.bool true, H', N, hk', Nat.le_refl _, fun η w ys hm hf hy => ?_⟩
      obtain ⟨u, v, hu, hv, rfl⟩ := γs2 hy
      simp only [AV.γ, Option.map_eq_some_iff] at hu hv
      obtain ⟨u', ⟨l, hl, rfl⟩, rfl⟩ := hu
      obtain ⟨v', ⟨pp, hpp, rfl⟩, rfl⟩ := hv
      obtain ⟨x, y, hx, hy2, rfl⟩ := γs2 hl
      obtain ⟨g, hg, hgb, cs, el, fr, hheap, hcs⟩ := hm.objs 0 _ hob
      have hcell : w.cell? ⟨b, 0, none⟩ = some (.iface t (.agg #[.pointer (some ⟨hd, o, none⟩)])) := by
        rw [hgb] at hheap
        simp [World.cell?, hheap, hcs]
      obtain ⟨W, hkeep, hlike, hcall⟩ := hw x y (addr pp q) w hcell
      have he1 : Evo η H N w η H N W := Evo.more hm hkeep hlike
      obtain ⟨W', he2, hsv⟩ := hrun η W (addr pp q) (.agg #[x, y]) he1.mem (by simp [AV.γ, hpp]) (by simp [AV.γ, γs, hx, hy2])
      refine (hcall W' hsv).mono fun e w' ⟨h1, h2⟩ => ?_
      subst h2
      exact ⟨η, .bool true, h1, rfl, he1.trans he2⟩
    · cases hk
  · exact .inl hk
  · cases hk
end Go.Proofs.YthidihigidchgaaGreatDoor.Sy
