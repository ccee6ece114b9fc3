/- The runner is right at regions whose order is open: for every program whose tables are right and that follows the mixed orders. -/
import Derived.Test.YthidihigidchgaaGreatDoorSyD
import Derived.Orders
set_option linter.unusedVariables false
set_option linter.unusedSimpArgs false

namespace Go.Proofs.YthidihigidchgaaGreatDoor.Sy

theorem bitOn_eq (s i : Nat) : bitOn s i = s.testBit i := by
  rw [Nat.testBit_eq_decide_div_mod_eq]
  unfold bitOn
  cases h : Nat.beq (Nat.mod (Nat.div s (Nat.pow 2 i)) 2) 1 with
  | true => exact (decide_eq_true (Nat.eq_of_beq_eq_true h)).symm
  | false => exact (decide_eq_false (Nat.ne_of_beq_eq_false h)).symm
theorem bitOn_zero (i : Nat) : bitOn 0 i = false := by rw [bitOn_eq]; simp
/-- an operation, whatever it calls, in the calculus of the kit: a value is laid, the memory has become another one -/
def Does1 (P : Program) (o : Oper) (nt : Nat) (R : Tr AV) (K : AH) (N : Nat) (v : AV) (K' : AH) (N' : Nat) : Prop :=
  N ≤ N' ∧ ∀ η w (a : Act), Mem η K w → Fresh η N N' → TRel η R nt a.tmps → ∀ (next : Act → World → Prop) (Q : Exit → Act → World → Prop),
    (∀ η' y w', Evo η K N w η' K' N' w' → v.γ η' = some y → next (a.put o.dst y) w') → o.wp P a w next Q
theorem evt_eval (a : Act) : evt a.tmps = a.eval := by
  funext x; cases x <;> rfl
/-- without a call -/
theorem Runs.does1 {P : Program} {o : Oper} {nt : Nat} {R : Tr AV} {K K' : AH} {N N' : Nat} {v : AV} (h : Runs P R K N (fun tmps => execOp (evt tmps) o) (.val v) K' N') : Does1 P o nt R K N v K' N' :=
  ⟨h.nn, fun η w a hm hf hT next Q hn => by
    obtain ⟨η', w', he, y, hy, hr⟩ := h.run η w nt a.tmps hm hf hT
    rw [evt_eval] at hr
    unfold Oper.wp
    rw [hr]
    exact hn η' y w' he hy⟩
theorem Runs.does1skip {P : Program} {o : Oper} {nt : Nat} {R : Tr AV} {K K' : AH} {N N' : Nat} (h : Runs P R K N (fun tmps => execOp (evt tmps) o) .skip K' N') : Does1 P o nt R K N (.tuple []) K' N' :=
  ⟨h.nn, fun η w a hm hf hT next Q hn => by
    obtain ⟨η', w', he, hr⟩ := h.run η w nt a.tmps hm hf hT
    have hr : (execOp (evt a.tmps) o).run P w = .ok .skip w' := hr
    rw [evt_eval] at hr
    unfold Oper.wp
    rw [hr]
    exact hn η' (.tuple #[]) w' he (by simp [AV.γ, γs_nil])⟩
/-- what is shown of a call of a function -/
def CallsIs (P : Program) (K : AH) (N : Nat) (f : FuncId) (args : List AV) (v : AV) (K' : AH) (N' : Nat) : Prop :=
  N ≤ N' ∧ ∀ η w ys, Mem η K w → Fresh η N N' → γs η args = some ys → Calls P f ys.toArray w fun e w' => ∃ η' y, e = .returned y ∧ v.γ η' = some y ∧ Evo η K N w η' K' N' w'
theorem Runs.does1call {P : Program} {o : Oper} {nt : Nat} {R : Tr AV} {K K1 K' : AH} {N N1 N' : Nat} {f : FuncId} {args : List AV} {v : AV}
    (h : Runs P R K N (fun tmps => execOp (evt tmps) o) (.enter f args) K1 N1) (hc : CallsIs P K1 N1 f args v K' N') : Does1 P o nt R K N v K' N' :=
  ⟨Nat.le_trans h.nn hc.1, fun η w a hm hf hT next Q hn => by
    obtain ⟨η1, w1, he, ys, hy, hr⟩ := h.run η w nt a.tmps hm (hf.sub (Nat.le_refl _) hc.1) hT
    rw [evt_eval] at hr
    have hcall := hc.2 η1 w1 ys he.mem (he.fresh hf) hy
    unfold Oper.wp
    rw [hr]
    show Calls P f ys.toArray w1 _
    refine hcall.mono fun e w2 h2 => ?_
    obtain ⟨η2, y, rfl, hy2, he2⟩ := h2
    exact hn η2 y w2 (he.trans he2) hy2⟩

/-! What an open region's operations come to, gone through in the text's order. -/
inductive RK where
  | skip
  | loc (ob : Option AObj)
  | read (m : Nat)
  | act (m : Nat)
structure Rec where
  o : Oper
  bits : Nat
  v : AV
  lo : Nat
  hi : Nat
  kind : RK
  R : Tr AV
  K : AH
/-- a memory that is to be seen behind m acts, by who comes behind 'bits' -/
def Seen (rs : List Rec) (KL : Nat → AH) (BL : Nat → Nat) (m : Nat) (bits : Nat) (K : AH) : Prop :=
  ∀ q o, Tr.look K q = some o → Tr.look (KL m) q = some o ∨ ∃ j r, rs[j]? = some r ∧ r.kind = .loc (some o) ∧ r.lo = q ∧ bitOn bits j = true ∧ bitOn (BL m) j = false
/-- the operands -/
def OpFact (ops : List Oper) (T0 : Tr AV) (rs : List Rec) (bits : Nat) (R : Tr AV) : Prop :=
  ∀ q v, Tr.look R q = some v → (∃ j r, rs[j]? = some r ∧ bitOn bits j = true ∧ r.o.dst = some q ∧ r.v = v) ∨ (Tr.look T0 q = some v ∧ ∀ o ∈ ops, o.dst ≠ some q)
def isWant (want : Bool) : AV → Bool
  | .bool b => b == want
  | _ => false
def GuardIs (rs : List Rec) (r : Rec) (w : Bool) : Prop := match r.o.guard with
  | none => w = true
  | some (j, want) => ∃ g, rs[j]? = some g ∧ bitOn r.bits j = true ∧ (∃ d, g.o.dst = some d) ∧ ((∃ b, g.v = .bool b) ∨ g.v = .tuple []) ∧ w = isWant want g.v
def KindIs (P : Program) (nt : Nat) (ops : List Oper) (T0 : Tr AV) (rs : List Rec) (KL : Nat → AH) (BL : Nat → Nat) (M : Nat) (i : Nat) (r : Rec) : Prop := match r.kind with
  | .skip => r.v = .tuple [] ∧ r.lo = r.hi
  | .loc ob => ∃ K', OpFact ops T0 rs r.bits r.R ∧ Does1 P r.o nt r.R .e r.lo r.v K' r.hi ∧ ∀ x, ob = some x → Tr.look K' r.lo = some x
  | .read m => r.lo = r.hi ∧ OpFact ops T0 rs r.bits r.R ∧ ∀ n, n ≤ M → (n < m → ∀ j s, rs[j]? = some s → s.kind = .act (n + 1) → bitOn r.bits j = false) → (m < n → bitOn (BL n) i = false) →
      ∃ K, Reads P r.R K r.o r.v ∧ Seen rs KL BL n r.bits K
  | .act m => ∃ n, m = n + 1 ∧ OpFact ops T0 rs r.bits r.R ∧ Does1 P r.o nt r.R r.K r.lo r.v (KL m) r.hi ∧ Seen rs KL BL n r.bits r.K ∧ BL m = r.bits ∧ m ≤ M ∧
      (∀ x, bitOn (BL n) x = true → bitOn r.bits x = true) ∧ (∀ k, k ≤ n → 0 < k → ∃ j s, rs[j]? = some s ∧ s.kind = .act k ∧ bitOn r.bits j = true) ∧
      ∀ j s x, rs[j]? = some s → s.kind = .loc (some x) → bitOn r.bits j = false → Tr.look r.K s.lo = none
structure Plan (P : Program) (nt : Nat) (ops : List Oper) (T0 : Tr AV) (H0 : AH) (N0 : Nat) (rs : List Rec) (KL : Nat → AH) (BL : Nat → Nat) (M : Nat) : Prop where
  k0 : KL 0 = H0
  b0 : BL 0 = 0
  same : ∀ (i : Nat) (r : Rec), rs[i]? = some r → ops[i]? = some r.o
  near : ∀ (i : Nat) (r : Rec), rs[i]? = some r → ∀ x, bitOn r.bits x = true → ∃ e ∈ r.o.after, Region.binds .any e = true ∧ (x = e.on ∨ ∃ s, rs[e.on]? = some s ∧ bitOn s.bits x = true)
  before : ∀ (i : Nat) (r : Rec), rs[i]? = some r → ∀ e ∈ r.o.after, Region.binds .any e = true → e.on < i
  rng : ∀ (i : Nat) (r : Rec), rs[i]? = some r → N0 ≤ r.lo ∧ r.lo ≤ r.hi
  apart : ∀ (i j : Nat) (r s : Rec), i < j → rs[i]? = some r → rs[j]? = some s → r.hi ≤ s.lo
  dst : ∀ (i : Nat) (r : Rec) (d : Tmp), rs[i]? = some r → r.o.dst = some d → d < nt ∧ ∀ (j : Nat) (s : Rec), rs[j]? = some s → s.o.dst = some d → j = i
  guard : ∀ (i : Nat) (r : Rec), rs[i]? = some r → GuardIs rs r (match r.kind with | .skip => false | _ => true)
  kind : ∀ (i : Nat) (r : Rec), rs[i]? = some r → KindIs P nt ops T0 rs KL BL M i r
  all : ∀ k, 0 < k → k ≤ M → ∃ (j : Nat) (s : Rec), rs[j]? = some s ∧ s.kind = .act k
  one : ∀ (i j : Nat) (r s : Rec) (k : Nat), rs[i]? = some r → rs[j]? = some s → r.kind = .act k → s.kind = .act k → i = j
end Go.Proofs.YthidihigidchgaaGreatDoor.Sy

namespace Go.Proofs.YthidihigidchgaaGreatDoor.Sy

/-! An open region's operations in any order that its edges let in. -/
section
variable {P : Program} {nt : Nat} {ops : List Oper} {T0 : Tr AV} {H0 : AH} {N0 : Nat} {rs : List Rec} {KL : Nat → AH} {BL : Nat → Nat} {M : Nat} {η0 : Env} {w0 : World} {ds : List Deferred}
structure Conc (nt : Nat) (ops : List Oper) (T0 : Tr AV) (H0 : AH) (rs : List Rec) (KL : Nat → AH) (BL : Nat → Nat) (M : Nat) (η0 : Env) (w0 : World) (ds : List Deferred)
    (L : Array Bool) (η : Env) (w : World) (a : Act) (F : Nat → Option AObj) (m : Nat) : Prop where
  since : Since η0 H0 w0 η F w
  lsize : L.size = rs.length
  closed : ∀ (j : Nat) (r : Rec), rs[j]? = some r → L.getD j false = true → ∀ x, bitOn r.bits x = true → L.getD x false = true
  acts : ∀ (i : Nat) (r : Rec) (k : Nat), rs[i]? = some r → r.kind = .act k → (L.getD i false = true ↔ k ≤ m)
  mM : m ≤ M
  s1 : ∀ q o, Tr.look (KL m) q = some o → F q = some o
  s2 : ∀ (j : Nat) (r : Rec) x, rs[j]? = some r → L.getD j false = true → r.kind = .loc (some x) → bitOn (BL m) j = false → F r.lo = some x
  size : a.tmps.size = nt
  got : ∀ (j : Nat) (r : Rec) d, rs[j]? = some r → L.getD j false = true → r.o.dst = some d → ∃ y, r.v.γ η = some y ∧ a.tmps[d]? = some y
  was : ∀ q v, Tr.look T0 q = some v → (∀ o ∈ ops, o.dst ≠ some q) → ∃ y, v.γ η = some y ∧ a.tmps[q]? = some y
  names : ∀ q, (∀ (j : Nat) (r : Rec), rs[j]? = some r → L.getD j false = true → ¬ (r.lo ≤ q ∧ q < r.hi)) → η.ρ q = η0.ρ q ∧ η.κ q = η0.κ q
  defers : a.defers = ds
theorem getD_set {L : Array Bool} {i j : Nat} (hi : i < L.size) : (L.setIfInBounds i true).getD j false = if i = j then true else L.getD j false := by
  simp only [Array.getD_eq_getD_getElem?, Array.getElem?_setIfInBounds]
  split
  · rename_i e; subst e; simp [hi]
  · rfl
section
variable {L : Array Bool} {η : Env} {w : World} {a : Act} {F : Nat → Option AObj} {m : Nat}
/-- what an operation reads is there -/
theorem Conc.trel (h : Conc nt ops T0 H0 rs KL BL M η0 w0 ds L η w a F m) {bits : Nat} (hb : ∀ x, bitOn bits x = true → L.getD x false = true) {R : Tr AV} (hR : OpFact ops T0 rs bits R) : TRel η R nt a.tmps :=
  ⟨h.size, fun q v hq => by
    rcases hR q v hq with ⟨j, r, hr, hj, hd, rfl⟩ | ⟨h1, h2⟩
    · exact h.got j r q hr (hb j hj) hd
    · exact h.was q v h1 h2⟩
theorem Conc.seen (h : Conc nt ops T0 H0 rs KL BL M η0 w0 ds L η w a F m) {bits : Nat} (hb : ∀ x, bitOn bits x = true → L.getD x false = true) {K : AH} (hK : Seen rs KL BL m bits K) :
    ∀ q o, Tr.look K q = some o → F q = some o := fun q o hq => by
  rcases hK q o hq with h1 | ⟨j, r, hr, hk, rfl, hj, hn⟩
  · exact h.s1 q o h1
  · exact h.s2 j r o hr (hb j hj) hk hn
theorem Conc.fresh (hp : Plan P nt ops T0 H0 N0 rs KL BL M) (h : Conc nt ops T0 H0 rs KL BL M η0 w0 ds L η w a F m) {N : Nat} (hf : Fresh η0 N0 N) (hN : ∀ (i : Nat) (r : Rec), rs[i]? = some r → r.hi ≤ N)
    {i : Nat} {r : Rec} (hr : rs[i]? = some r) (hi : L.getD i false = false) : Fresh η r.lo r.hi := fun q h1 h2 => by
  have := h.names q fun j s hs hj hq => by
    by_cases e : i = j
    · subst e; rw [hi] at hj; cases hj
    · rcases Nat.lt_or_gt_of_ne e with hlt | hlt
      · have := hp.apart i j r s hlt hr hs; omega
      · have := hp.apart j i s r hlt hs hr; omega
  rw [this.1, this.2]
  have h3 := (hp.rng i r hr).1
  have h4 := hN i r hr
  exact hf q (by omega) (by omega)
/-- an operation is done -/
theorem Conc.next (hp : Plan P nt ops T0 H0 N0 rs KL BL M) (h : Conc nt ops T0 H0 rs KL BL M η0 w0 ds L η w a F m) {i : Nat} {r : Rec} (hr : rs[i]? = some r) (hi : L.getD i false = false)
    (hb : ∀ x, bitOn r.bits x = true → L.getD x false = true) {K K' : AH} (hK : ∀ q o, Tr.look K q = some o → F q = some o) {η' : Env} {w' : World} (he : Evo η K r.lo w η' K' r.hi w') {y : Value} (hy : r.v.γ η' = some y) {m' : Nat}
    (hacts : ∀ (j : Nat) (s : Rec) (k : Nat), rs[j]? = some s → s.kind = .act k → ((i = j ∨ L.getD j false = true) ↔ k ≤ m')) (hm : m' ≤ M)
    (hs1 : ∀ q o, Tr.look (KL m') q = some o → overF F K K' q = some o)
    (hs2 : ∀ (j : Nat) (s : Rec) x, rs[j]? = some s → (i = j ∨ L.getD j false = true) → s.kind = .loc (some x) → bitOn (BL m') j = false → overF F K K' s.lo = some x) :
    Conc nt ops T0 H0 rs KL BL M η0 w0 ds (L.setIfInBounds i true) η' w' (a.put r.o.dst y) (overF F K K') m' := by
  have hil : i < L.size := by
    rw [h.lsize]
    rcases Nat.lt_or_ge i rs.length with h' | h'
    · exact h'
    · rw [List.getElem?_eq_none h'] at hr; cases hr
  have hL : ∀ j, (L.setIfInBounds i true).getD j false = true ↔ (i = j ∨ L.getD j false = true) := fun j => by
    rw [getD_set hil]
    by_cases e : i = j
    · simp [e]
    · simp [e]
  have hput : ∀ q, r.o.dst ≠ some q → (a.put r.o.dst y).tmps[q]? = a.tmps[q]? := fun q hq => by
    cases hd : r.o.dst with
    | none => rfl
    | some d =>
      simp only [Act.put]
      rw [Array.getElem?_setIfInBounds_ne]
      exact fun e => hq (by rw [hd, e])
  refine ⟨h.since.step hK he, by simpa using h.lsize, fun j s hs hj x hx => ?_, fun j s k hs hk => ?_, hm, hs1, fun j s x hs hj hk hbl => ?_, ?_, fun j s d hs hj hd => ?_, fun q v hq ho => ?_, fun q hq => ?_, ?_⟩
  · rw [hL] at hj ⊢
    rcases hj with rfl | hj
    · rw [hr] at hs; cases hs
      exact .inr (hb x hx)
    · exact .inr (h.closed j s hs hj x hx)
  · rw [hL]; exact hacts j s k hs hk
  · exact hs2 j s x hs ((hL j).1 hj) hk hbl
  · cases hd : r.o.dst with
    | none => exact h.size
    | some d => simp [Act.put, h.size]
  · rw [hL] at hj
    by_cases e : i = j
    · subst e
      rw [hr] at hs; cases hs
      have hlt := (hp.dst i r d hr hd).1
      refine ⟨y, hy, ?_⟩
      rw [hd]
      simp [Act.put, h.size, hlt]
    · have hj := hj.resolve_left e
      obtain ⟨z, hz, ht⟩ := h.got j s d hs hj hd
      refine ⟨z, γ_mono he.le _ _ hz, ?_⟩
      rw [hput d fun e2 => e ((hp.dst j s d hs hd).2 i r hr e2)]
      exact ht
  · obtain ⟨z, hz, ht⟩ := h.was q v hq ho
    refine ⟨z, γ_mono he.le _ _ hz, ?_⟩
    have hmem : r.o ∈ ops := List.mem_of_getElem? (hp.same i r hr)
    rw [hput q (ho r.o hmem)]
    exact ht
  · have h1 : q < r.lo ∨ r.hi ≤ q := by
      have := hq i r hr ((hL i).2 (.inl rfl))
      omega
    have h2 := he.out q h1
    have h3 := h.names q fun j s hs hj => hq j s hs ((hL j).2 (.inr hj))
    exact ⟨h2.1.trans h3.1, h2.2.trans h3.2⟩
  · cases hd : r.o.dst with
    | none => exact h.defers
    | some d => exact h.defers
end
end
end Go.Proofs.YthidihigidchgaaGreatDoor.Sy

namespace Go.Proofs.YthidihigidchgaaGreatDoor.Sy
section
variable {P : Program} {nt : Nat} {ops : List Oper} {T0 : Tr AV} {H0 : AH} {N0 : Nat} {rs : List Rec} {KL : Nat → AH} {BL : Nat → Nat} {M : Nat} {η0 : Env} {w0 : World} {ds : List Deferred}
variable {L : Array Bool} {η : Env} {w : World} {a : Act} {F : Nat → Option AObj} {m : Nat}
/-- is it wanted? -/
theorem Conc.wanted (hp : Plan P nt ops T0 H0 N0 rs KL BL M) (h : Conc nt ops T0 H0 rs KL BL M η0 w0 ds L η w a F m) {r : Rec} (hb : ∀ x, bitOn r.bits x = true → L.getD x false = true) {wt : Bool} (hg : GuardIs rs r wt) :
    Region.wanted r.o (yielded ops.toArray a.tmps) = wt := by
  unfold GuardIs at hg
  unfold Region.wanted
  cases hgd : r.o.guard with
  | none => rw [hgd] at hg; simp [hg]
  | some g =>
    obtain ⟨j, want⟩ := g
    rw [hgd] at hg
    obtain ⟨g, hgj, hbit, ⟨d, hd⟩, hv, rfl⟩ := hg
    obtain ⟨y, hy, ht⟩ := h.got j g d hgj (hb j hbit) hd
    have hop : ops.toArray[j]? = some g.o := by simpa using hp.same j g hgj
    have e : ((ops.toArray[j]?).bind (·.dst)).bind (a.tmps[·]?) = some y := by rw [hop]; simp [hd, ht]
    show (yielded ops.toArray a.tmps j == some want) = _
    unfold yielded
    rw [e]
    rcases hv with ⟨b, hv⟩ | hv
    · rw [hv] at hy ⊢
      rw [γ_bool hy]
      simp [isWant]
    · rw [hv] at hy ⊢
      simp [AV.γ, γs_nil] at hy
      subst hy
      simp [isWant]
theorem Conc.bl (hp : Plan P nt ops T0 H0 N0 rs KL BL M) (h : Conc nt ops T0 H0 rs KL BL M η0 w0 ds L η w a F m) (h0 : 0 < m) {x : Nat} (hx : bitOn (BL m) x = true) : L.getD x false = true := by
  obtain ⟨j, s, hs, hsk⟩ := hp.all m h0 h.mM
  have hk := hp.kind j s hs
  unfold KindIs at hk
  rw [hsk] at hk
  obtain ⟨_, _, _, _, _, hbl, _⟩ := hk
  rw [hbl] at hx
  exact h.closed j s hs ((h.acts j s m hs hsk).2 (Nat.le_refl _)) x hx
theorem does_use {o : Oper} {R : Tr AV} {K K' : AH} {N N' : Nat} {v : AV} (h : Does1 P o nt R K N v K' N') (hm : Mem η K w) (hf : Fresh η N N') (hT : TRel η R nt a.tmps) {next : Act → World → Prop} {Q : Exit → Act → World → Prop}
    (hn : ∀ η' y w', Evo η K N w η' K' N' w' → v.γ η' = some y → next (a.put o.dst y) w') : o.wp P a w next Q := h.2 η w a hm hf hT next Q hn
/-- one operation more -/
theorem Conc.step (hp : Plan P nt ops T0 H0 N0 rs KL BL M) (h : Conc nt ops T0 H0 rs KL BL M η0 w0 ds L η w a F m) {N : Nat} (hf : Fresh η0 N0 N) (hN : ∀ (i : Nat) (r : Rec), rs[i]? = some r → r.hi ≤ N)
    {i : Nat} {r : Rec} (hr : rs[i]? = some r) (hi : L.getD i false = false) (hready : ∀ e ∈ r.o.after, Region.binds .any e = true → L.getD e.on false = true)
    {Q : Exit → Act → World → Prop} {next : Act → World → Prop}
    (hn : ∀ η' w' a' F' m', Conc nt ops T0 H0 rs KL BL M η0 w0 ds (L.setIfInBounds i true) η' w' a' F' m' → next a' w') : wpOp P ops.toArray Q i next a w := by
  have hb : ∀ x, bitOn r.bits x = true → L.getD x false = true := fun x hx => by
    obtain ⟨e, he, hbd, hcase⟩ := hp.near i r hr x hx
    have hon := hready e he hbd
    rcases hcase with rfl | ⟨s, hs, hsx⟩
    · exact hon
    · exact h.closed e.on s hs hon x hsx
  have hop : ops.toArray[i]? = some r.o := by simpa using hp.same i r hr
  have hwt := h.wanted hp hb (hp.guard i r hr)
  have hfr := h.fresh hp hf hN hr hi
  have hk := hp.kind i r hr
  unfold wpOp
  rw [hop]
  dsimp only
  rw [hwt]
  have noact : (∀ k, r.kind ≠ .act k) → ∀ (j : Nat) (s : Rec) (k : Nat), rs[j]? = some s → s.kind = .act k → ((i = j ∨ L.getD j false = true) ↔ k ≤ m) := fun hna j s k hs hk => by
    have e : i ≠ j := fun e => by subst e; rw [hr] at hs; cases hs; exact hna k hk
    simp only [e, false_or]
    exact h.acts j s k hs hk
  have evo0 : Evo η .e r.lo w η .e r.lo w := Evo.refl ⟨fun q o e => (by rw [Tr.look_e] at e; cases e), fun q _ o _ _ _ e => (by rw [Tr.look_e] at e; cases e)⟩
  have sub0 : ∀ q o, Tr.look (.e : AH) q = some o → F q = some o := fun q o e => by rw [Tr.look_e] at e; cases e
  have over0 : ∀ q, overF F .e .e q = F q := fun q => by unfold overF; rw [Tr.look_e]
  unfold KindIs at hk
  cases hkd : r.kind with
  | skip =>
    rw [hkd] at hk
    obtain ⟨hv, hlh⟩ := hk
    simp only [Bool.false_eq_true, if_false]
    refine hn η w _ _ m (h.next hp hr hi hb (K := .e) (K' := .e) (y := undef) sub0 (by rw [← hlh]; exact evo0) (by rw [hv]; simp [AV.γ, γs_nil, undef]) (noact fun k e => by rw [hkd] at e; cases e) h.mM
      (fun q o e => by rw [over0]; exact h.s1 q o e) (fun j s x hs hj hsk hbl => ?_))
    rw [over0]
    rcases hj with rfl | hj
    · rw [hr] at hs; cases hs; rw [hkd] at hsk; cases hsk
    · exact h.s2 j s x hs hj hsk hbl
  | loc ob =>
    rw [hkd] at hk
    obtain ⟨K', hR, hd, hob⟩ := hk
    simp only [if_true]
    refine .inl (does_use hd (h.since.mem.less sub0) hfr (h.trel hb hR) fun η' y w' he hy => ?_)
    have old : ∀ q o, F q = some o → overF F .e K' q = some o := fun q o e => h.since.mem.over_old sub0 he e (Tr.look_e q)
    refine hn η' w' _ _ m (h.next hp hr hi hb sub0 he hy (noact fun k e => by rw [hkd] at e; cases e) h.mM (fun q o e => old q o (h.s1 q o e)) fun j s x hs hj hsk hbl => ?_)
    rcases hj with rfl | hj
    · rw [hr] at hs; cases hs
      rw [hkd] at hsk
      cases hsk
      exact over_new (hob x rfl)
    · exact old _ _ (h.s2 j s x hs hj hsk hbl)
  | read k =>
    rw [hkd] at hk
    obtain ⟨hlh, hR, hrd⟩ := hk
    simp only [if_true]
    obtain ⟨K, hreads, hseen⟩ := hrd m h.mM
      (fun hlt j s hs hsk => by
        cases hbit : bitOn r.bits j with
        | false => rfl
        | true =>
          have := (h.acts j s (m + 1) hs hsk).1 (hb j hbit)
          omega)
      (fun hlt => by
        cases hbit : bitOn (BL m) i with
        | false => rfl
        | true =>
          exfalso
          have := h.bl hp (by omega) hbit
          rw [hi] at this; cases this)
    have hsub := h.seen hb hseen
    obtain ⟨y, hy, hrun⟩ := hreads η w nt a.tmps (h.since.mem.less hsub) (h.trel hb hR)
    rw [evt_eval] at hrun
    refine .inl ?_
    unfold Oper.wp
    rw [hrun]
    show next (a.put r.o.dst y) w
    refine hn η w _ _ m (h.next hp hr hi hb (K := .e) (K' := .e) (y := y) sub0 (by rw [← hlh]; exact evo0) hy (noact fun k e => by rw [hkd] at e; cases e) h.mM
      (fun q o e => by rw [over0]; exact h.s1 q o e) (fun j s x hs hj hsk hbl => ?_))
    rw [over0]
    rcases hj with rfl | hj
    · rw [hr] at hs; cases hs; rw [hkd] at hsk; cases hsk
    · exact h.s2 j s x hs hj hsk hbl
  | act k =>
    rw [hkd] at hk
    obtain ⟨n, hkn, hR, hd, hseen, hbl, hkM, hmono, hprev, hnone⟩ := hk
    simp only [if_true]
    -- it is the next act
    have hnm : n = m := by
      have h1 : ¬ k ≤ m := fun hle => by
        have := (h.acts i r k hr hkd).2 hle
        rw [hi] at this; cases this
      have h2 : n ≤ m := by
        rcases Nat.eq_zero_or_pos n with h0 | h0
        · omega
        · obtain ⟨j, s, hs, hsk, hbit⟩ := hprev n (Nat.le_refl _) h0
          exact (h.acts j s n hs hsk).1 (hb j hbit)
      omega
    subst hnm
    have hsub := h.seen hb hseen
    refine .inl (does_use hd (h.since.mem.less hsub) hfr (h.trel hb hR) fun η' y w' he hy => ?_)
    refine hn η' w' _ _ k (h.next hp hr hi hb hsub he hy (fun j s k' hs hsk => ?_) hkM (fun q o e => over_new e) fun j s x hs hj hsk hbl' => ?_)
    · constructor
      · rintro (rfl | hj)
        · rw [hr] at hs; cases hs; rw [hkd] at hsk; cases hsk; exact Nat.le_refl _
        · have := (h.acts j s k' hs hsk).1 hj; omega
      · intro hle
        by_cases e : k' = k
        · subst e
          exact .inl (hp.one i j r s k' hr hs hkd hsk)
        · exact .inr ((h.acts j s k' hs hsk).2 (by omega))
    · have hne : i ≠ j := fun e => by subst e; rw [hr] at hs; cases hs; rw [hkd] at hsk; cases hsk
      have hj := hj.resolve_left hne
      rw [hbl] at hbl'
      have h1 : bitOn (BL n) j = false := by
        cases hbit : bitOn (BL n) j with
        | false => rfl
        | true => rw [hmono j hbit] at hbl'; cases hbl'
      exact h.since.mem.over_old hsub he (h.s2 j s x hs hj hsk h1) (hnone j s x hs hsk hbl')
end
end Go.Proofs.YthidihigidchgaaGreatDoor.Sy

namespace Go.Proofs.YthidihigidchgaaGreatDoor.Sy
section
variable {P : Program} {nt : Nat} {ops : List Oper} {T0 : Tr AV} {H0 : AH} {N0 : Nat} {rs : List Rec} {KL : Nat → AH} {BL : Nat → Nat} {M : Nat} {η0 : Env} {w0 : World} {ds : List Deferred}
/-- whatever order is drawn -/
theorem plan_any (hp : Plan P nt ops T0 H0 N0 rs KL BL M) (hlen : rs.length = ops.length) {N : Nat} (hf : Fresh η0 N0 N) (hN : ∀ (i : Nat) (r : Rec), rs[i]? = some r → r.hi ≤ N) {Q : Exit → Act → World → Prop}
    (hQ : ∀ L η w a F m, Conc nt ops T0 H0 rs KL BL M η0 w0 ds L η w a F m → (∀ i, i < ops.length → L.getD i false = true) → Q .normal a w) :
    ∀ (fuel : Nat) (L : Array Bool) (η : Env) (w : World) (a : Act) (F : Nat → Option AObj) (m : Nat), Conc nt ops T0 H0 rs KL BL M η0 w0 ds L η w a F m →
      (∃ S : List Nat, S.length ≤ fuel ∧ ∀ i, i < ops.length → L.getD i false = false → i ∈ S) → wpAny P .any ops.toArray Q fuel L a w := by
  have get : ∀ i, i < ops.length → ∃ r, rs[i]? = some r := fun i hi => ⟨rs[i]'(by omega), by rw [List.getElem?_eq_getElem]⟩
  have getDs : ∀ (L : Array Bool) i, i < L.size → L.getD i true = L.getD i false := fun L i hi => by simp [Array.getD, hi]
  have toReady : ∀ (L : Array Bool) i, L.size = ops.length → i < ops.length → L.getD i false = false → (∀ r, rs[i]? = some r → ∀ e ∈ r.o.after, Region.binds .any e = true → L.getD e.on false = true) → i ∈ Region.ready .any ops.toArray L := by
    intro L i hL hi hu he
    obtain ⟨r, hr⟩ := get i hi
    have hop : ops[i]? = some r.o := hp.same i r hr
    unfold Region.ready
    rw [List.mem_filter]
    refine ⟨by simpa using hi, ?_⟩
    rw [getDs L i (by omega), hu]
    simp only [List.getElem?_toArray, hop, Option.map_some, Option.getD_some, Bool.not_false, Bool.true_and]
    rw [Array.all_eq_true_iff_forall_mem]
    intro e hem
    cases hbd : Region.binds .any e with
    | false => rfl
    | true => simpa using he r hr e hem hbd
  have fromReady : ∀ (L : Array Bool) i, L.size = ops.length → i ∈ Region.ready .any ops.toArray L → i < ops.length ∧ L.getD i false = false ∧ ∀ r, rs[i]? = some r → ∀ e ∈ r.o.after, Region.binds .any e = true → L.getD e.on false = true := by
    intro L i hL hi
    unfold Region.ready at hi
    rw [List.mem_filter] at hi
    obtain ⟨h1, h2⟩ := hi
    have h1 : i < ops.length := by simpa using h1
    obtain ⟨r, hr⟩ := get i h1
    have hop : ops[i]? = some r.o := hp.same i r hr
    rw [getDs L i (by omega)] at h2
    simp only [List.getElem?_toArray, hop, Option.map_some, Option.getD_some, Bool.and_eq_true, Bool.not_eq_true'] at h2
    refine ⟨h1, h2.1, fun r' hr' e he hbd => ?_⟩
    rw [hr] at hr'; cases hr'
    have := (Array.all_eq_true_iff_forall_mem.1 h2.2) e he
    rw [hbd] at this
    simpa using this
  have done : ∀ (L : Array Bool), L.size = ops.length → Region.ready .any ops.toArray L = [] → ∀ i, i < ops.length → L.getD i false = true := by
    intro L hL hr0 i
    induction i using Nat.strongRecOn with
    | _ i ih =>
      intro hi
      cases hu : L.getD i false with
      | true => rfl
      | false =>
        exfalso
        have := toReady L i hL hi hu fun r hr e he hbd => by
          have hlt := hp.before i r hr e he hbd
          exact ih e.on hlt (by omega)
        rw [hr0] at this; cases this
  intro fuel
  induction fuel with
  | zero =>
    intro L η w a F m hc ⟨S, hS, hall⟩
    have hL : L.size = ops.length := by rw [hc.lsize, hlen]
    have hS0 : S = [] := List.length_eq_zero_iff.1 (by omega)
    subst hS0
    have hr0 : Region.ready .any ops.toArray L = [] := by
      cases hr : Region.ready .any ops.toArray L with
      | nil => rfl
      | cons x xs =>
        have hx := fromReady L x hL (by rw [hr]; simp)
        have := hall x hx.1 hx.2.1
        cases this
    exact ⟨hr0, hQ L η w a F m hc (done L hL hr0)⟩
  | succ fuel ih =>
    intro L η w a F m hc ⟨S, hS, hall⟩
    have hL : L.size = ops.length := by rw [hc.lsize, hlen]
    refine ⟨fun hr0 => hQ L η w a F m hc (done L hL hr0), fun i hi => ?_⟩
    obtain ⟨h1, h2, h3⟩ := fromReady L i hL hi
    obtain ⟨r, hr⟩ := get i h1
    refine hc.step hp hf hN hr h2 (h3 r hr) fun η' w' a' F' m' hc' => ih _ η' w' a' F' m' hc' ⟨S.erase i, ?_, fun j hj hju => ?_⟩
    · have := List.length_erase_of_mem (hall i h1 h2)
      omega
    · rw [getD_set (by omega)] at hju
      split at hju
      · cases hju
      · rename_i hne
        exact (List.mem_erase_of_ne (fun e => hne e.symm)).2 (hall j hj hju)
end
end Go.Proofs.YthidihigidchgaaGreatDoor.Sy

namespace Go.Proofs.YthidihigidchgaaGreatDoor.Sy

/-! What the runner looks at in an open region. -/
theorem bitOn_lor (a b i : Nat) : bitOn (Nat.lor a b) i = (bitOn a i || bitOn b i) := by
  rw [bitOn_eq, bitOn_eq, bitOn_eq]; exact Nat.testBit_or a b i
theorem bitOn_pow (j i : Nat) : bitOn (Nat.pow 2 j) i = decide (j = i) := by
  rw [bitOn_eq]; exact Nat.testBit_two_pow
theorem edgesOf_spec {acc : Tr Nat} : ∀ (es : List Edge) {s : Nat} {k : Nat → Bool}, edgesOf acc es s k = true → ∃ b, k b = true ∧
    (∀ x, bitOn b x = true ↔ bitOn s x = true ∨ ∃ e ∈ es, Region.binds .any e = true ∧ (x = e.on ∨ ∃ c, Tr.look acc e.on = some c ∧ bitOn c x = true)) ∧
    ∀ e ∈ es, Region.binds .any e = true → ∃ c, Tr.look acc e.on = some c
  | [], s, k, h => by
    have h : fzNat s k = true := h
    rw [fzNat_eq] at h
    exact ⟨s, h, fun x => by simp, by simp⟩
  | e :: r, s, k, h => by
    simp only [edgesOf] at h
    split at h
    · rename_i hb
      obtain ⟨c, hc, hk⟩ := Tr.get_spec h
      obtain ⟨b, hkb, hx, ha⟩ := edgesOf_spec r hk
      refine ⟨b, hkb, fun x => ?_, fun e' he' hb' => ?_⟩
      · rw [hx, bitOn_lor, bitOn_lor, bitOn_pow]
        simp only [Bool.or_eq_true, decide_eq_true_eq]
        constructor
        · rintro (((h1 | h1) | h1) | ⟨e', he', h2⟩)
          · exact .inl h1
          · exact .inr ⟨e, by simp, hb, .inl h1.symm⟩
          · exact .inr ⟨e, by simp, hb, .inr ⟨c, hc, h1⟩⟩
          · exact .inr ⟨e', by simp [he'], h2⟩
        · rintro (h1 | ⟨e', he', hb', h2⟩)
          · exact .inl (.inl (.inl h1))
          · rcases List.mem_cons.1 he' with rfl | he'
            · rcases h2 with rfl | ⟨c', hc', h2⟩
              · exact .inl (.inl (.inr rfl))
              · rw [hc] at hc'; cases hc'
                exact .inl (.inr h2)
            · exact .inr ⟨e', he', hb', h2⟩
      · rcases List.mem_cons.1 he' with rfl | he'
        · exact ⟨c, hc⟩
        · exact ha e' he' hb'
    · rename_i hb
      obtain ⟨b, hkb, hx, ha⟩ := edgesOf_spec r h
      refine ⟨b, hkb, fun x => ?_, fun e' he' hb' => ?_⟩
      · rw [hx]
        constructor
        · rintro (h1 | ⟨e', he', h2⟩)
          · exact .inl h1
          · exact .inr ⟨e', by simp [he'], h2⟩
        · rintro (h1 | ⟨e', he', hb', h2⟩)
          · exact .inl h1
          · rcases List.mem_cons.1 he' with rfl | he'
            · exact absurd hb' (by rw [hb]; simp)
            · exact .inr ⟨e', he', hb', h2⟩
      · rcases List.mem_cons.1 he' with rfl | he'
        · exact absurd hb' (by rw [hb]; simp)
        · exact ha e' he' hb'
/-- who writes what -/
theorem writers_spec : ∀ (os : List Oper) (i : Nat) {W : Tr Nat} {k : Tr Nat → Bool}, writers os i W k = true → ∃ W', k W' = true ∧
    (∀ t j, Tr.look W' t = some j ↔ Tr.look W t = some j ∨ ∃ o n, os[n]? = some o ∧ o.dst = some t ∧ j = i + n) ∧
    (∀ (n : Nat) (o : Oper) t, os[n]? = some o → o.dst = some t → Tr.look W t = none) ∧
    (∀ (n m : Nat) (o p : Oper) t, os[n]? = some o → os[m]? = some p → o.dst = some t → p.dst = some t → n = m)
  | [], i, W, k, h => ⟨W, h, fun t j => by simp, fun n o t h => by simp at h, fun n m o p t h => by simp at h⟩
  | o :: r, i, W, k, h => by
    simp only [writers] at h
    split at h
    · rename_i hd
      obtain ⟨W', hk, h1, h2, h3⟩ := writers_spec r (Nat.succ i) h
      refine ⟨W', hk, fun t j => ?_, fun n o' t hn ht => ?_, fun n m o' p t hn hm ho hp => ?_⟩
      · rw [h1]
        constructor
        · rintro (e | ⟨o', n, hn, ht, rfl⟩)
          · exact .inl e
          · exact .inr ⟨o', n + 1, by simpa using hn, ht, by omega⟩
        · rintro (e | ⟨o', n, hn, ht, rfl⟩)
          · exact .inl e
          · cases n with
            | zero => simp at hn; subst hn; rw [hd] at ht; cases ht
            | succ n => exact .inr ⟨o', n, by simpa using hn, ht, by omega⟩
      · cases n with
        | zero => simp at hn; subst hn; rw [hd] at ht; cases ht
        | succ n => exact h2 n o' t (by simpa using hn) ht
      · cases n with
        | zero => simp at hn; subst hn; rw [hd] at ho; cases ho
        | succ n =>
          cases m with
          | zero => simp at hm; subst hm; rw [hd] at hp; cases hp
          | succ m => rw [h3 n m o' p t (by simpa using hn) (by simpa using hm) ho hp]
    · rename_i d hd
      split at h
      · cases h
      · rename_i hf
        have hf := Tr.hasK_false (by simpa using hf)
        obtain ⟨W1, hk, hl⟩ := Tr.set_spec h
        obtain ⟨W', hk, h1, h2, h3⟩ := writers_spec r (Nat.succ i) hk
        have hdn : ∀ (n : Nat) (o' : Oper), r[n]? = some o' → o'.dst ≠ some d := fun n o' hn ht => by
          have := h2 n o' d hn ht
          rw [hl, if_pos rfl] at this; cases this
        refine ⟨W', hk, fun t j => ?_, fun n o' t hn ht => ?_, fun n m o' p t hn hm ho hp => ?_⟩
        · rw [h1, hl]
          constructor
          · rintro (e | ⟨o', n, hn, ht, rfl⟩)
            · split at e
              · rename_i et; subst et; cases e
                exact .inr ⟨o, 0, rfl, hd, rfl⟩
              · exact .inl e
            · exact .inr ⟨o', n + 1, by simpa using hn, ht, by omega⟩
          · rintro (e | ⟨o', n, hn, ht, rfl⟩)
            · left
              split
              · rename_i et; subst et; rw [hf] at e; cases e
              · exact e
            · cases n with
              | zero =>
                simp at hn; subst hn; rw [hd] at ht; cases ht
                exact .inl (by simp)
              | succ n => exact .inr ⟨o', n, by simpa using hn, ht, by omega⟩
        · cases n with
          | zero => simp at hn; subst hn; rw [hd] at ht; cases ht; exact hf
          | succ n =>
            have := h2 n o' t (by simpa using hn) ht
            rw [hl] at this
            split at this
            · cases this
            · exact this
        · cases n with
          | zero =>
            simp at hn; subst hn; rw [hd] at ho; cases ho
            cases m with
            | zero => rfl
            | succ m => exact absurd hp (hdn m p (by simpa using hm))
          | succ n =>
            cases m with
            | zero =>
              simp at hm; subst hm; rw [hd] at hp; cases hp
              exact absurd ho (hdn n o' (by simpa using hn))
            | succ m => rw [h3 n m o' p t (by simpa using hn) (by simpa using hm) ho hp]
theorem behind_spec {W : Tr Nat} {bits : Nat} : ∀ (l : List Operand), behind W bits l = true → ∀ t, Operand.tmp t ∈ l → ∀ j, Tr.look W t = some j → bitOn bits j = true
  | [], _, t, ht, j, _ => by cases ht
  | x :: r, h, t, ht, j, hj => by
    cases x with
    | tmp u =>
      simp only [behind] at h
      split at h
      · split at h
        · rename_i hg
          obtain ⟨j', hj', hb⟩ := Tr.get_spec hg
          rcases List.mem_cons.1 ht with e | ht
          · cases e; rw [hj] at hj'; cases hj'; exact hb
          · exact behind_spec r h t ht j hj
        · cases h
      · rename_i hf
        have hf := Tr.hasK_false (by simpa using hf)
        rcases List.mem_cons.1 ht with e | ht
        · cases e; rw [hj] at hf; cases hf
        · exact behind_spec r h t ht j hj
    | const _ => exact behind_spec r h t ((List.mem_cons.1 ht).resolve_left (by simp)) j hj
    | global _ => exact behind_spec r h t ((List.mem_cons.1 ht).resolve_left (by simp)) j hj
    | func _ => exact behind_spec r h t ((List.mem_cons.1 ht).resolve_left (by simp)) j hj
end Go.Proofs.YthidihigidchgaaGreatDoor.Sy

namespace Go.Proofs.YthidihigidchgaaGreatDoor.Sy

/-! Guards. -/
def WantIs (T : Tr AV) (all : List Oper) (o : Oper) (w : Bool) : Prop := match o.guard with
  | none => w = true
  | some (j, want) => ∃ g d v, all[j]? = some g ∧ g.dst = some d ∧ Tr.look T d = some v ∧ ((∃ b, v = .bool b) ∨ v = .tuple []) ∧ w = isWant want v
theorem nthO_spec : ∀ (l : List Oper) (i : Nat) {k : Oper → Bool}, nthO l i k = true → ∃ o, l[i]? = some o ∧ k o = true
  | [], i, k, h => by simp [nthO] at h
  | o :: r, 0, k, h => ⟨o, rfl, h⟩
  | o :: r, i + 1, k, h => by
    obtain ⟨p, hp, hk⟩ := nthO_spec r i (show nthO r i k = true from h)
    exact ⟨p, by simpa using hp, hk⟩
theorem wantedA_spec {T : Tr AV} {all : List Oper} {o : Oper} {k : Bool → Bool} (h : wantedA T all o k = true) : ∃ w, k w = true ∧ WantIs T all o w := by
  unfold WantIs
  cases hg : o.guard with
  | none =>
    refine ⟨true, ?_, rfl⟩
    have : Option.rec (motive := fun _ => Bool) (k true) (wantG T all k) o.guard = true := h
    rw [hg] at this; exact this
  | some g =>
    obtain ⟨j, want⟩ := g
    have h : Option.rec (motive := fun _ => Bool) (k true) (wantG T all k) o.guard = true := h
    rw [hg] at h
    have h : nthO all j (fun o => match o.dst with | none => false | some d => Tr.get T d (wantB want k)) = true := h
    obtain ⟨g, hgj, h⟩ := nthO_spec _ _ h
    split at h
    · cases h
    · rename_i d hd
      obtain ⟨v, hv, hk⟩ := Tr.get_spec h
      unfold wantB at hk
      split at hk
      · rename_i b
        refine ⟨isWant want (.bool b), ?_, g, d, .bool b, hgj, hd, hv, .inl ⟨b, rfl⟩, rfl⟩
        cases b <;> cases want <;> simpa [isWant] using hk
      · exact ⟨false, hk, g, d, .tuple [], hgj, hd, hv, .inr rfl, rfl⟩
      · cases hk

/-! The text's order: what is known when the first operations are through. -/
/-- a memory at a level: what the last act left, and what was made beside it -/
def At (KL : Nat → AH) (BL : Nat → Nat) (m : Nat) (H : AH) (ps : List Pend) : Prop :=
  ∀ q o, Tr.look H q = some o → Tr.look (KL m) q = some o ∨ ∃ p ∈ ps, p.id = q ∧ p.obj = o ∧ bitOn (BL m) p.at_ = false
structure Pre (P : Program) (nt : Nat) (ops : List Oper) (T0 : Tr AV) (H0 : AH) (N0 : Nat) (s : DS) (i : Nat) (rs : List Rec) (KL : Nat → AH) (BL : Nat → Nat) (M : Nat) : Prop where
  plan : Plan P nt ops T0 H0 N0 rs KL BL M
  len : rs.length = i
  acc : ∀ j b, Tr.look s.acc j = some b → ∃ r, rs[j]? = some r ∧ r.bits = b
  nn : N0 ≤ s.N
  hi : ∀ (j : Nat) (r : Rec), rs[j]? = some r → r.hi ≤ s.N
  tmp : ∀ q v, Tr.look s.T q = some v → (∃ (j : Nat) (r : Rec), rs[j]? = some r ∧ r.o.dst = some q ∧ r.v = v) ∨ (Tr.look T0 q = some v ∧ ∀ (j : Nat) (r : Rec), rs[j]? = some r → r.o.dst ≠ some q)
  mem : At KL BL M s.H s.pend
  pend : ∀ p ∈ s.pend, ∃ r : Rec, rs[p.at_]? = some r ∧ r.kind = .loc (some p.obj) ∧ r.lo = p.id
  pends : ∀ (j : Nat) (r : Rec) x, rs[j]? = some r → r.kind = .loc (some x) → ∃ p ∈ s.pend, p.at_ = j ∧ p.id = r.lo
  snap : ∀ x ∈ s.snaps, ∃ (r : Rec) (m : Nat), rs[x.1]? = some r ∧ r.kind = .act (m + 1) ∧ At KL BL m x.2 s.pend
  snaps : ∀ (j : Nat) (r : Rec) m, rs[j]? = some r → r.kind = .act m → ∃ H, (j, H) ∈ s.snaps ∧ ∀ q o, Tr.look r.K q = some o → Tr.look H q = some o
  last : match s.last with | none => M = 0 | some j => 0 < M ∧ ∃ r : Rec, rs[j]? = some r ∧ r.kind = .act M
  rm : ∀ (j : Nat) (r : Rec) m, rs[j]? = some r → r.kind = .read m → m ≤ M
  opens : ∀ (j : Nat) (r : Rec) m, rs[j]? = some r → r.kind = .read m → (∃ x ∈ s.open_, x.at_ = j ∧ x.o = r.o ∧ x.bits = r.bits ∧ x.T = r.R ∧ x.v = r.v) ∨ (0 < M ∧ bitOn (BL M) j = true)
end Go.Proofs.YthidihigidchgaaGreatDoor.Sy

namespace Go.Proofs.YthidihigidchgaaGreatDoor.Sy

/-! One record more. -/
theorem get_app {rs : List Rec} {x : Rec} {j : Nat} {r : Rec} (h : rs[j]? = some r) : (rs ++ [x])[j]? = some r := by
  rw [List.getElem?_append_left]
  · exact h
  · rcases Nat.lt_or_ge j rs.length with h' | h'
    · exact h'
    · rw [List.getElem?_eq_none h'] at h; cases h
theorem get_last {rs : List Rec} {x : Rec} : (rs ++ [x])[rs.length]? = some x := by simp
theorem get_inv {rs : List Rec} {x : Rec} {j : Nat} {r : Rec} (h : (rs ++ [x])[j]? = some r) : rs[j]? = some r ∨ (j = rs.length ∧ r = x) := by
  rw [List.getElem?_append] at h
  split at h
  · exact .inl h
  · rename_i hj
    right
    have : j - rs.length = 0 := by
      rcases Nat.eq_zero_or_pos (j - rs.length) with h0 | h0
      · exact h0
      · rw [List.getElem?_eq_none (by simp; omega)] at h; cases h
    rw [this] at h
    simp at h
    exact ⟨by omega, h.symm⟩
section
variable {P : Program} {nt : Nat} {ops : List Oper} {T0 : Tr AV} {H0 : AH} {N0 : Nat} {rs : List Rec} {KL KL' : Nat → AH} {BL BL' : Nat → Nat} {M M' : Nat} {x : Rec}
theorem Seen.app {m bits : Nat} {K : AH} (hm : KL' m = KL m ∧ BL' m = BL m) (h : Seen rs KL BL m bits K) : Seen (rs ++ [x]) KL' BL' m bits K := fun q o hq => by
  rcases h q o hq with h | ⟨j, r, hr, h1, h2, h3, h4⟩
  · exact .inl (by rw [hm.1]; exact h)
  · exact .inr ⟨j, r, get_app hr, h1, h2, h3, by rw [hm.2]; exact h4⟩
theorem OpFact.app {bits : Nat} {R : Tr AV} (h : OpFact ops T0 rs bits R) : OpFact ops T0 (rs ++ [x]) bits R := fun q v hq => by
  rcases h q v hq with ⟨j, r, hr, h1⟩ | h
  · exact .inl ⟨j, r, get_app hr, h1⟩
  · exact .inr h
theorem GuardIs.app {r : Rec} {w : Bool} (h : GuardIs rs r w) : GuardIs (rs ++ [x]) r w := by
  unfold GuardIs at *
  split at h
  · exact h
  · obtain ⟨g, hg, rest⟩ := h
    exact ⟨g, get_app hg, rest⟩
theorem KindIs.app (hM : M ≤ M') (hsame : ∀ n, n ≤ M → KL' n = KL n ∧ BL' n = BL n) {i : Nat} {r : Rec} (h : KindIs P nt ops T0 rs KL BL M i r)
    (hread : ∀ m, r.kind = .read m → m ≤ M ∧ ∀ n, M < n → n ≤ M' → bitOn (BL' n) i = false → ∃ K, Reads P r.R K r.o r.v ∧ Seen (rs ++ [x]) KL' BL' n r.bits K)
    (hact : ∀ m y, r.kind = .act m → x.kind = .loc (some y) → Tr.look r.K x.lo = none) : KindIs P nt ops T0 (rs ++ [x]) KL' BL' M' i r := by
  unfold KindIs at *
  cases hk : r.kind with
  | skip => rw [hk] at h; exact h
  | loc ob =>
    rw [hk] at h
    obtain ⟨K', h1, h2⟩ := h
    exact ⟨K', h1.app, h2⟩
  | read m =>
    rw [hk] at h
    obtain ⟨h1, h2, h3⟩ := h
    refine ⟨h1, h2.app, fun n hn ha hb => ?_⟩
    by_cases hnM : n ≤ M
    · obtain ⟨K, hK, hs⟩ := h3 n hnM (fun hlt j s hs hsk => ha hlt j s (get_app hs) hsk) (fun hlt => by rw [← (hsame n hnM).2]; exact hb hlt)
      exact ⟨K, hK, hs.app (hsame n hnM)⟩
    · obtain ⟨hmM, hr⟩ := hread m hk
      exact hr n (by omega) hn (hb (by omega))
  | act m =>
    rw [hk] at h
    obtain ⟨n, h1, h2, h3, h4, h5, h6, h7, h8, h9⟩ := h
    subst h1
    have e1 := hsame n (by omega)
    have e2 := hsame (n + 1) h6
    refine ⟨n, rfl, h2.app, by rw [e2.1]; exact h3, h4.app e1, by rw [e2.2]; exact h5, by omega, fun y hy => h7 y (by rw [← e1.2]; exact hy), fun k hk1 hk2 => ?_, fun j s y hs hsk hb => ?_⟩
    · obtain ⟨j, s, hs, hrest⟩ := h8 k hk1 hk2
      exact ⟨j, s, get_app hs, hrest⟩
    · rcases get_inv hs with hs | ⟨_, rfl⟩
      · exact h9 j s y hs hsk hb
      · exact hact _ y hk hsk
/-- the plan with one record more -/
theorem Plan.add (hp : Plan P nt ops T0 H0 N0 rs KL BL M) (hM : M ≤ M') (hsame : ∀ n, n ≤ M → KL' n = KL n ∧ BL' n = BL n)
    (hop : ops[rs.length]? = some x.o) (hnear : ∀ y, bitOn x.bits y = true → ∃ e ∈ x.o.after, Region.binds .any e = true ∧ (y = e.on ∨ ∃ s, rs[e.on]? = some s ∧ bitOn s.bits y = true))
    (hbefore : ∀ e ∈ x.o.after, Region.binds .any e = true → e.on < rs.length) (hrng : N0 ≤ x.lo ∧ x.lo ≤ x.hi) (hapart : ∀ (j : Nat) (r : Rec), rs[j]? = some r → r.hi ≤ x.lo)
    (hdst : ∀ d, x.o.dst = some d → d < nt ∧ ∀ (j : Nat) (s : Rec), rs[j]? = some s → s.o.dst ≠ some d)
    (hguard : GuardIs rs x (match x.kind with | .skip => false | _ => true)) (hkind : KindIs P nt ops T0 (rs ++ [x]) KL' BL' M' rs.length x)
    (hread : ∀ (i : Nat) (r : Rec) m, rs[i]? = some r → r.kind = .read m → m ≤ M ∧ ∀ n, M < n → n ≤ M' → bitOn (BL' n) i = false → ∃ K, Reads P r.R K r.o r.v ∧ Seen (rs ++ [x]) KL' BL' n r.bits K)
    (hact : ∀ (i : Nat) (r : Rec) m y, rs[i]? = some r → r.kind = .act m → x.kind = .loc (some y) → Tr.look r.K x.lo = none)
    (hall : ∀ k, M < k → k ≤ M' → x.kind = .act k) (hone : ∀ k, x.kind = .act k → M < k) : Plan P nt ops T0 H0 N0 (rs ++ [x]) KL' BL' M' where
  k0 := by rw [(hsame 0 (Nat.zero_le _)).1]; exact hp.k0
  b0 := by rw [(hsame 0 (Nat.zero_le _)).2]; exact hp.b0
  same i r h := by
    rcases get_inv h with h | ⟨rfl, rfl⟩
    · exact hp.same i r h
    · exact hop
  near i r h y hy := by
    rcases get_inv h with h | ⟨rfl, rfl⟩
    · obtain ⟨e, he, hb, h1⟩ := hp.near i r h y hy
      exact ⟨e, he, hb, h1.imp id fun ⟨s, hs, h2⟩ => ⟨s, get_app hs, h2⟩⟩
    · obtain ⟨e, he, hb, h1⟩ := hnear y hy
      exact ⟨e, he, hb, h1.imp id fun ⟨s, hs, h2⟩ => ⟨s, get_app hs, h2⟩⟩
  before i r h := by
    rcases get_inv h with h | ⟨rfl, rfl⟩
    · exact hp.before i r h
    · exact hbefore
  rng i r h := by
    rcases get_inv h with h | ⟨rfl, rfl⟩
    · exact hp.rng i r h
    · exact hrng
  apart i j r s hij hr hs := by
    rcases get_inv hr with hr1 | ⟨ei, er⟩ <;> rcases get_inv hs with hs1 | ⟨ej, es⟩
    · exact hp.apart i j r s hij hr1 hs1
    · rw [es]; exact hapart i r hr1
    · rw [List.getElem?_eq_none (by omega)] at hs1; cases hs1
    · omega
  dst i r d hr hd := by
    rcases get_inv hr with hr | ⟨rfl, rfl⟩
    · refine ⟨(hp.dst i r d hr hd).1, fun j s hs hsd => ?_⟩
      rcases get_inv hs with hs1 | ⟨ej, es⟩
      · exact (hp.dst i r d hr hd).2 j s hs1 hsd
      · rw [es] at hsd; exact absurd hd ((hdst d hsd).2 i r hr)
    · refine ⟨(hdst d hd).1, fun j s hs hsd => ?_⟩
      rcases get_inv hs with hs | ⟨rfl, rfl⟩
      · exact absurd hsd ((hdst d hd).2 j s hs)
      · rfl
  guard i r h := by
    rcases get_inv h with h | ⟨rfl, rfl⟩
    · exact (hp.guard i r h).app
    · exact hguard.app
  kind i r h := by
    rcases get_inv h with h | ⟨rfl, rfl⟩
    · exact (hp.kind i r h).app hM hsame (fun m hm => hread i r m h hm) (fun m y hm hy => hact i r m y h hm hy)
    · exact hkind
  all k h0 hk := by
    by_cases hkM : k ≤ M
    · obtain ⟨j, s, hs, hsk⟩ := hp.all k h0 hkM
      exact ⟨j, s, get_app hs, hsk⟩
    · exact ⟨rs.length, x, get_last, hall k (by omega) hk⟩
  one i j r s k hr hs hrk hsk := by
    have old : ∀ (i : Nat) (r : Rec), rs[i]? = some r → r.kind = .act k → k ≤ M := fun i r h e => by
      have := hp.kind i r h
      unfold KindIs at this
      rw [e] at this
      obtain ⟨n, _, _, _, _, _, h6, _⟩ := this
      exact h6
    rcases get_inv hr with hr1 | ⟨ei, er⟩ <;> rcases get_inv hs with hs1 | ⟨ej, es⟩
    · exact hp.one i j r s k hr1 hs1 hrk hsk
    · rw [es] at hsk; have := old i r hr1 hrk; have := hone k hsk; omega
    · rw [er] at hrk; have := old j s hs1 hsk; have := hone k hrk; omega
    · rw [ei, ej]
end
end Go.Proofs.YthidihigidchgaaGreatDoor.Sy

namespace Go.Proofs.YthidihigidchgaaGreatDoor.Sy
section
variable {C : Cx} {P : Program} {nt : Nat} {ops : List Oper} {T0 : Tr AV} {H0 : AH} {N0 : Nat} {rs : List Rec} {KL : Nat → AH} {BL : Nat → Nat} {M : Nat} {s : DS} {i : Nat}
theorem drawnFin_spec {bits : Nat} {k : Kds} {T : Tr AV} {H : AH} {N : Nat} {pend : List Pend} {op : List Open} {snaps : List (Nat × AH)} {last : Option Nat} (h : drawnFin s i bits k T H N pend op snaps last = true) :
    ∃ acc, k ⟨T, H, N, acc, pend, op, snaps, last⟩ = true ∧ ∀ q, Tr.look acc q = if q = i then some bits else Tr.look s.acc q := by
  obtain ⟨T1, H1, N1, acc, p1, o1, s1, l1⟩ := s
  exact Tr.set_spec (show Tr.set acc i (some bits) (fun acc => k ⟨T, H, N, acc, pend, op, snaps, last⟩) = true from h)
/-- what a guard said, of the records -/
theorem Pre.guard (h : Pre P nt ops T0 H0 N0 s i rs KL BL M) (hone : ∀ (n m : Nat) (o p : Oper) t, ops[n]? = some o → ops[m]? = some p → o.dst = some t → p.dst = some t → n = m)
    {x : Rec} {w : Bool} (hg : guardOn x.o x.bits = true) (hb : ∀ y, bitOn x.bits y = true → y < i) (hw : WantIs s.T ops x.o w) : GuardIs rs x w := by
  unfold WantIs at hw
  unfold GuardIs
  cases hgd : x.o.guard with
  | none => rw [hgd] at hw; exact hw
  | some g =>
    obtain ⟨j, want⟩ := g
    rw [hgd] at hw
    have hg : bitOn x.bits j = true := by unfold guardOn at hg; rw [hgd] at hg; exact hg
    obtain ⟨g, d, v, hgj, hd, hv, hkind, rfl⟩ := hw
    have hji := hb j hg
    have hjr : rs[j]? = some (rs[j]'(by rw [h.len]; exact hji)) := by rw [List.getElem?_eq_getElem]
    have hsame := h.plan.same j _ hjr
    rw [hgj] at hsame
    have hog : g = (rs[j]'(by rw [h.len]; exact hji)).o := Option.some.inj hsame
    rcases h.tmp d v hv with ⟨j', r', hr', hd', rfl⟩ | ⟨_, hno⟩
    · have hsame' := h.plan.same j' r' hr'
      have : j' = j := hone j' j r'.o g d hsame' hgj hd' hd
      subst this
      exact ⟨r', hr', hg, ⟨d, hd'⟩, hkind, rfl⟩
    · exact absurd (hog ▸ hd) (hno j _ hjr)
/-- what an operation reads, of the records -/
theorem Pre.operands (h : Pre P nt ops T0 H0 N0 s i rs KL BL M) {W : Tr Nat} (hW : ∀ t j, Tr.look W t = some j ↔ ∃ o n, ops[n]? = some o ∧ o.dst = some t ∧ j = n) {bits : Nat} (hlt : ∀ y, bitOn bits y = true → y < i)
    {l : List Operand} (hb : behind W bits l = true) {R : Tr AV} (hR : ∀ q v, Tr.look R q = some v → Tr.look s.T q = some v ∧ Operand.tmp q ∈ l) : OpFact ops T0 rs bits R := fun q v hq => by
  obtain ⟨hq, hl⟩ := hR q v hq
  rcases h.tmp q v hq with ⟨j, r, hr, hd, hv⟩ | ⟨h0, hno⟩
  · exact .inl ⟨j, r, hr, behind_spec l hb q hl j ((hW q j).2 ⟨r.o, j, h.plan.same j r hr, hd, rfl⟩), hd, hv⟩
  · refine .inr ⟨h0, fun o ho hd => ?_⟩
    obtain ⟨n, hn⟩ := List.getElem?_of_mem ho
    have hbit := behind_spec l hb q hl n ((hW q n).2 ⟨o, n, hn, hd, rfl⟩)
    have hni := hlt n hbit
    have hrn : rs[n]? = some (rs[n]'(by rw [h.len]; exact hni)) := by rw [List.getElem?_eq_getElem]
    have hsame := h.plan.same n _ hrn
    rw [hn] at hsame
    have he : o = (rs[n]'(by rw [h.len]; exact hni)).o := Option.some.inj hsame
    exact hno n _ hrn (he ▸ hd)
/-- one record more that neither acts nor makes anything -/
theorem Pre.more (h : Pre P nt ops T0 H0 N0 s i rs KL BL M) {x : Rec} {T' : Tr AV} {N' : Nat} {acc' : Tr Nat} {op' : List Open}
    (hplan : Plan P nt ops T0 H0 N0 (rs ++ [x]) KL BL M) (hna : ∀ m, x.kind ≠ .act m) (hnl : ∀ y, x.kind ≠ .loc (some y)) (hN : s.N ≤ N') (hx : x.hi ≤ N')
    (hT : ∀ q, Tr.look T' q = if x.o.dst = some q then some x.v else Tr.look s.T q) (hacc : ∀ q, Tr.look acc' q = if q = i then some x.bits else Tr.look s.acc q)
    (hop : ∀ y ∈ s.open_, y ∈ op') (hrm : ∀ m, x.kind = .read m → m ≤ M) (hrd : ∀ m, x.kind = .read m → ∃ y ∈ op', y.at_ = i ∧ y.o = x.o ∧ y.bits = x.bits ∧ y.T = x.R ∧ y.v = x.v) :
    Pre P nt ops T0 H0 N0 ⟨T', s.H, N', acc', s.pend, op', s.snaps, s.last⟩ (i + 1) (rs ++ [x]) KL BL M where
  plan := hplan
  len := by simp [h.len]
  acc j b e := by
    rw [hacc] at e
    split at e
    · rename_i ej; cases e
      exact ⟨x, by rw [ej, ← h.len]; exact get_last, rfl⟩
    · obtain ⟨r, hr, hb⟩ := h.acc j b e
      exact ⟨r, get_app hr, hb⟩
  nn := Nat.le_trans h.nn hN
  hi j r hr := by
    rcases get_inv hr with hr1 | ⟨_, e⟩
    · exact Nat.le_trans (h.hi j r hr1) hN
    · rw [e]; exact hx
  tmp q v e := by
    rw [hT] at e
    split at e
    · rename_i hd; cases e
      exact .inl ⟨rs.length, x, get_last, hd, rfl⟩
    · rename_i hd
      rcases h.tmp q v e with ⟨j, r, hr, h1⟩ | ⟨h0, hno⟩
      · exact .inl ⟨j, r, get_app hr, h1⟩
      · refine .inr ⟨h0, fun j r hr => ?_⟩
        rcases get_inv hr with hr1 | ⟨_, e⟩
        · exact hno j r hr1
        · rw [e]; exact hd
  mem := h.mem
  pend p hp := by
    obtain ⟨r, hr, h1⟩ := h.pend p hp
    exact ⟨r, get_app hr, h1⟩
  pends j r y hr hk := by
    rcases get_inv hr with hr1 | ⟨_, e⟩
    · exact h.pends j r y hr1 hk
    · rw [e] at hk; exact absurd hk (hnl y)
  snap y hy := by
    obtain ⟨r, m, hr, h1⟩ := h.snap y hy
    exact ⟨r, m, get_app hr, h1⟩
  snaps j r m hr hk := by
    rcases get_inv hr with hr1 | ⟨_, e⟩
    · exact h.snaps j r m hr1 hk
    · rw [e] at hk; exact absurd hk (hna m)
  last := by
    have := h.last
    cases hl : s.last with
    | none => rw [hl] at this; exact this
    | some j =>
      rw [hl] at this
      obtain ⟨h0, r, hr, hk⟩ := this
      exact ⟨h0, r, get_app hr, hk⟩
  rm j r m hr hk := by
    rcases get_inv hr with hr1 | ⟨_, e⟩
    · exact h.rm j r m hr1 hk
    · rw [e] at hk; exact hrm m hk
  opens j r m hr hk := by
    rcases get_inv hr with hr1 | ⟨ej, e⟩
    · exact (h.opens j r m hr1 hk).imp (fun ⟨y, hy, h1⟩ => ⟨y, hop y hy, h1⟩) id
    · rw [e] at hk
      obtain ⟨y, hy, h1, h2⟩ := hrd m hk
      exact .inl ⟨y, hy, by rw [h1, ej, h.len], by rw [e]; exact h2⟩
end
end Go.Proofs.YthidihigidchgaaGreatDoor.Sy

namespace Go.Proofs.YthidihigidchgaaGreatDoor.Sy
section
variable {P : Program} {nt : Nat} {ops : List Oper} {T0 : Tr AV} {H0 : AH} {N0 : Nat} {rs : List Rec} {KL : Nat → AH} {BL : Nat → Nat} {M : Nat} {s : DS} {i : Nat}
theorem At.more {m : Nat} {H : AH} {ps : List Pend} {p : Pend} (h : At KL BL m H ps) : At KL BL m H (p :: ps) := fun q o hq => by
  rcases h q o hq with h | ⟨p', hp', h1⟩
  · exact .inl h
  · exact .inr ⟨p', by simp [hp'], h1⟩
/-- one record more that makes something -/
theorem Pre.make (h : Pre P nt ops T0 H0 N0 s i rs KL BL M) {x : Rec} {T' : Tr AV} {H' : AH} {N' : Nat} {acc' : Tr Nat} {ob : AObj}
    (hplan : Plan P nt ops T0 H0 N0 (rs ++ [x]) KL BL M) (hk : x.kind = .loc (some ob)) (hlo : x.lo = s.N) (hN : s.N ≤ N') (hx : x.hi ≤ N') (hbl : bitOn (BL M) i = false)
    (hT : ∀ q, Tr.look T' q = if x.o.dst = some q then some x.v else Tr.look s.T q) (hacc : ∀ q, Tr.look acc' q = if q = i then some x.bits else Tr.look s.acc q)
    (hH : ∀ q, Tr.look H' q = if q = s.N then some ob else Tr.look s.H q) :
    Pre P nt ops T0 H0 N0 ⟨T', H', N', acc', ⟨i, s.N, ob⟩ :: s.pend, s.open_, s.snaps, s.last⟩ (i + 1) (rs ++ [x]) KL BL M where
  plan := hplan
  len := by simp [h.len]
  acc j b e := by
    rw [hacc] at e
    split at e
    · rename_i ej; cases e
      exact ⟨x, by rw [ej, ← h.len]; exact get_last, rfl⟩
    · obtain ⟨r, hr, hb⟩ := h.acc j b e
      exact ⟨r, get_app hr, hb⟩
  nn := Nat.le_trans h.nn hN
  hi j r hr := by
    rcases get_inv hr with hr1 | ⟨_, e⟩
    · exact Nat.le_trans (h.hi j r hr1) hN
    · rw [e]; exact hx
  tmp q v e := by
    rw [hT] at e
    split at e
    · rename_i hd; cases e
      exact .inl ⟨rs.length, x, get_last, hd, rfl⟩
    · rename_i hd
      rcases h.tmp q v e with ⟨j, r, hr, h1⟩ | ⟨h0, hno⟩
      · exact .inl ⟨j, r, get_app hr, h1⟩
      · refine .inr ⟨h0, fun j r hr => ?_⟩
        rcases get_inv hr with hr1 | ⟨_, e⟩
        · exact hno j r hr1
        · rw [e]; exact hd
  mem q o e := by
    rw [hH] at e
    split at e
    · rename_i eq; cases e
      exact .inr ⟨⟨i, s.N, ob⟩, by simp, eq.symm, rfl, hbl⟩
    · exact h.mem.more q o e
  pend p hp := by
    rcases List.mem_cons.1 hp with rfl | hp
    · exact ⟨x, by show (rs ++ [x])[i]? = some x; rw [← h.len]; exact get_last, hk, hlo⟩
    · obtain ⟨r, hr, h1⟩ := h.pend p hp
      exact ⟨r, get_app hr, h1⟩
  pends j r y hr hk' := by
    rcases get_inv hr with hr1 | ⟨ej, e⟩
    · obtain ⟨p, hp, h1⟩ := h.pends j r y hr1 hk'
      exact ⟨p, by simp [hp], h1⟩
    · exact ⟨⟨i, s.N, ob⟩, by simp, by rw [ej, h.len], by rw [e, hlo]⟩
  snap y hy := by
    obtain ⟨r, m, hr, h1, h2⟩ := h.snap y hy
    exact ⟨r, m, get_app hr, h1, h2.more⟩
  snaps j r m hr hk' := by
    rcases get_inv hr with hr1 | ⟨_, e⟩
    · exact h.snaps j r m hr1 hk'
    · rw [e, hk] at hk'; cases hk'
  last := by
    have := h.last
    cases hl : s.last with
    | none => rw [hl] at this; exact this
    | some j =>
      rw [hl] at this
      obtain ⟨h0, r, hr, hk⟩ := this
      exact ⟨h0, r, get_app hr, hk⟩
  rm j r m hr hk' := by
    rcases get_inv hr with hr1 | ⟨_, e⟩
    · exact h.rm j r m hr1 hk'
    · rw [e, hk] at hk'; cases hk'
  opens j r m hr hk' := by
    rcases get_inv hr with hr1 | ⟨ej, e⟩
    · exact h.opens j r m hr1 hk'
    · rw [e, hk] at hk'; cases hk'
end
end Go.Proofs.YthidihigidchgaaGreatDoor.Sy

namespace Go.Proofs.YthidihigidchgaaGreatDoor.Sy
section
variable {C : Cx} {P : Program} {nt : Nat} {ops : List Oper} {T0 : Tr AV} {H0 : AH} {N0 : Nat} {rs : List Rec} {KL : Nat → AH} {BL : Nat → Nat} {M : Nat} {s : DS} {i : Nat}
/-- what is left of a memory is seen -/
theorem At.seen {m bits : Nat} {H K : AH} {ps : List Pend} (h : At KL BL m H ps) (hps : ∀ p ∈ ps, ∃ r : Rec, rs[p.at_]? = some r ∧ r.kind = .loc (some p.obj) ∧ r.lo = p.id)
    (hK : ∀ q o, Tr.look K q = some o → Tr.look H q = some o ∧ ∀ p ∈ ps, p.id = q → bitOn bits p.at_ = true) : Seen rs KL BL m bits K := fun q o hq => by
  obtain ⟨h1, h2⟩ := hK q o hq
  rcases h q o h1 with h3 | ⟨p, hp, rfl, rfl, hb⟩
  · exact .inl h3
  · obtain ⟨r, hr, hk, hl⟩ := hps p hp
    exact .inr ⟨p.at_, r, hr, hk, hl, h2 p hp rfl, hb⟩
variable (hC : C.OKc P)
include hC
theorem again_spec {o : Oper} {bits : Nat} {ps : List Pend} {T : Tr AV} {H : AH} {v : AV} (h : again C o bits ps T H v = true) :
    ∃ K, (∀ q ob, Tr.look K q = some ob → Tr.look H q = some ob ∧ ∀ p ∈ ps, p.id = q → bitOn bits p.at_ = true) ∧ Reads P T K o v := by
  obtain ⟨K, hk, hK⟩ := prune_spec ps h
  obtain ⟨u, hu, hr⟩ := readA_spec (P := P) hC hk
  rw [← sameV_eq v u hu] at hr
  exact ⟨K, hK, hr⟩
theorem againL_spec {o : Oper} {bits : Nat} {ps : List Pend} {T : Tr AV} {v : AV} : ∀ (l : List (Nat × AH)), againL C o bits ps T v l = true → ∀ x ∈ l, bitOn bits x.1 = false →
    ∃ K, (∀ q ob, Tr.look K q = some ob → Tr.look x.2 q = some ob ∧ ∀ p ∈ ps, p.id = q → bitOn bits p.at_ = true) ∧ Reads P T K o v
  | [], _, x, hx, _ => by cases hx
  | (j, H) :: r, h, x, hx, hb => by
    simp only [againL] at h
    split at h
    · rename_i hj
      rcases List.mem_cons.1 hx with rfl | hx
      · rw [hj] at hb; cases hb
      · exact againL_spec r h x hx hb
    · split at h
      · rename_i ha
        rcases List.mem_cons.1 hx with rfl | hx
        · exact again_spec hC ha
        · exact againL_spec r h x hx hb
      · cases h
theorem stillL_spec {bits : Nat} {ps : List Pend} {H : AH} : ∀ (l : List Open) {k : List Open → Bool}, stillL C bits ps H l k = true → ∃ l', k l' = true ∧ ∀ x ∈ l, bitOn bits x.at_ = true ∨
    (x ∈ l' ∧ ∃ K, (∀ q ob, Tr.look K q = some ob → Tr.look H q = some ob ∧ ∀ p ∈ ps, p.id = q → bitOn x.bits p.at_ = true) ∧ Reads P x.T K x.o x.v)
  | [], k, h => ⟨[], h, fun x hx => by cases hx⟩
  | y :: r, k, h => by
    simp only [stillL] at h
    split at h
    · rename_i hy
      obtain ⟨l', hk, hl⟩ := stillL_spec r h
      refine ⟨l', hk, fun x hx => ?_⟩
      rcases List.mem_cons.1 hx with rfl | hx
      · exact .inl hy
      · exact hl x hx
    · split at h
      · rename_i ha
        obtain ⟨l', hk, hl⟩ := stillL_spec r h
        refine ⟨_, hk, fun x hx => ?_⟩
        rcases List.mem_cons.1 hx with rfl | hx
        · exact .inr ⟨by simp, again_spec hC ha⟩
        · exact (hl x hx).imp id fun ⟨h1, h2⟩ => ⟨by simp [h1], h2⟩
      · cases h
end
end Go.Proofs.YthidihigidchgaaGreatDoor.Sy

namespace Go.Proofs.YthidihigidchgaaGreatDoor.Sy
/-- which operations lie behind which: earlier ones, and all behind them -/
structure BitsOK (rs : List Rec) : Prop where
  lt : ∀ (j : Nat) (r : Rec), rs[j]? = some r → ∀ y, bitOn r.bits y = true → y < j
  trans : ∀ (j k : Nat) (r t : Rec), rs[j]? = some r → rs[k]? = some t → bitOn r.bits k = true → ∀ y, bitOn t.bits y = true → bitOn r.bits y = true
theorem BitsOK.add {rs : List Rec} {x : Rec} (h : BitsOK rs) (hlt : ∀ y, bitOn x.bits y = true → y < rs.length)
    (htr : ∀ (k : Nat) (t : Rec), rs[k]? = some t → bitOn x.bits k = true → ∀ y, bitOn t.bits y = true → bitOn x.bits y = true) : BitsOK (rs ++ [x]) where
  lt j r hr := by
    rcases get_inv hr with hr1 | ⟨ej, e⟩
    · exact h.lt j r hr1
    · rw [e, ej]; exact hlt
  trans j k r t hr ht hb := by
    rcases get_inv hr with hr1 | ⟨ej, e⟩
    · rcases get_inv ht with ht1 | ⟨ek, e2⟩
      · exact h.trans j k r t hr1 ht1 hb
      · have h1 := h.lt j r hr1 k hb
        have : j < rs.length := by
          rcases Nat.lt_or_ge j rs.length with h' | h'
          · exact h'
          · rw [List.getElem?_eq_none h'] at hr1; cases hr1
        omega
    · rw [e] at hb ⊢
      rcases get_inv ht with ht1 | ⟨ek, e2⟩
      · exact htr k t ht1 hb
      · have := hlt k hb; omega
section
variable {P : Program} {nt : Nat} {ops : List Oper} {T0 : Tr AV} {H0 : AH} {N0 : Nat} {rs : List Rec} {KL : Nat → AH} {BL : Nat → Nat} {M : Nat} {s : DS} {i : Nat}
def setL {α : Type} (f : Nat → α) (m : Nat) (v : α) (n : Nat) : α := if n = m then v else f n
theorem setL_same {α : Type} (f : Nat → α) (m : Nat) (v : α) : setL f m v m = v := by simp [setL]
theorem setL_old {α : Type} (f : Nat → α) {m n : Nat} (v : α) (h : n ≤ m) : setL f (m + 1) v n = f n := by
  have : n ≠ m + 1 := by omega
  simp [setL, this]
/-- all that lay behind the last act lies behind the next -/
theorem Pre.lastBits (h : Pre P nt ops T0 H0 N0 s i rs KL BL M) (hB : BitsOK rs) {bits : Nat} (hl : match s.last with | none => True | some j => bitOn bits j = true)
    (htr : ∀ (k : Nat) (t : Rec), rs[k]? = some t → bitOn bits k = true → ∀ y, bitOn t.bits y = true → bitOn bits y = true) :
    (∀ y, bitOn (BL M) y = true → bitOn bits y = true) ∧ ∀ k, k ≤ M → 0 < k → ∃ (j : Nat) (t : Rec), rs[j]? = some t ∧ t.kind = .act k ∧ bitOn bits j = true := by
  have hla := h.last
  cases hlast : s.last with
  | none =>
    rw [hlast] at hla
    have hla : M = 0 := hla
    subst hla
    exact ⟨fun y hy => (by rw [h.plan.b0, bitOn_zero] at hy; cases hy), fun k h1 h2 => by omega⟩
  | some j =>
    rw [hlast] at hla hl
    obtain ⟨h0, r, hr, hk⟩ := hla
    have hl : bitOn bits j = true := hl
    have hkind := h.plan.kind j r hr
    unfold KindIs at hkind
    rw [hk] at hkind
    obtain ⟨n, e, _, _, _, hbl, _, _, h8, _⟩ := hkind
    refine ⟨fun y hy => htr j r hr hl y (by rw [← hbl]; exact hy), fun k h1 h2 => ?_⟩
    by_cases hkM : k = M
    · exact ⟨j, r, hr, by rw [hkM]; exact hk, hl⟩
    · obtain ⟨j', t, ht, htk, hb⟩ := h8 k (by omega) h2
      exact ⟨j', t, ht, htk, htr j r hr hl j' hb⟩
end
end Go.Proofs.YthidihigidchgaaGreatDoor.Sy

namespace Go.Proofs.YthidihigidchgaaGreatDoor.Sy
section
variable {C : Cx} {P : Program} {nt : Nat} {ops : List Oper} {T0 : Tr AV} {H0 : AH} {N0 : Nat} {rs : List Rec} {KL : Nat → AH} {BL : Nat → Nat} {M : Nat} {s : DS} {i : Nat}
theorem At.set {m : Nat} {H X : AH} {b : Nat} {ps : List Pend} (h : At KL BL m H ps) (hm : m ≤ M) : At (setL KL (M + 1) X) (setL BL (M + 1) b) m H ps := fun q o hq => by
  rw [setL_old _ _ hm, setL_old _ _ hm]; exact h q o hq
/-- one record more, an act -/
theorem Pre.act (h : Pre P nt ops T0 H0 N0 s i rs KL BL M) {x : Rec} {T' : Tr AV} {H' K' : AH} {N' : Nat} {acc' : Tr Nat} {op' : List Open}
    (hplan : Plan P nt ops T0 H0 N0 (rs ++ [x]) (setL KL (M + 1) K') (setL BL (M + 1) x.bits) (M + 1)) (hk : x.kind = .act (M + 1)) (hN : s.N ≤ N') (hx : x.hi ≤ N')
    (hT : ∀ q, Tr.look T' q = if x.o.dst = some q then some x.v else Tr.look s.T q) (hacc : ∀ q, Tr.look acc' q = if q = i then some x.bits else Tr.look s.acc q)
    (hKs : ∀ q o, Tr.look x.K q = some o → Tr.look s.H q = some o)
    (hH : ∀ q o, Tr.look H' q = some o → Tr.look K' q = some o ∨ ∃ p ∈ s.pend, p.id = q ∧ p.obj = o ∧ bitOn x.bits p.at_ = false)
    (hlb : ∀ y, bitOn (BL M) y = true → bitOn x.bits y = true)
    (hop : ∀ y ∈ s.open_, bitOn x.bits y.at_ = true ∨ y ∈ op') :
    Pre P nt ops T0 H0 N0 ⟨T', H', N', acc', s.pend, op', (i, s.H) :: s.snaps, some i⟩ (i + 1) (rs ++ [x]) (setL KL (M + 1) K') (setL BL (M + 1) x.bits) (M + 1) where
  plan := hplan
  len := by simp [h.len]
  acc j b e := by
    rw [hacc] at e
    split at e
    · rename_i ej; cases e
      exact ⟨x, by rw [ej, ← h.len]; exact get_last, rfl⟩
    · obtain ⟨r, hr, hb⟩ := h.acc j b e
      exact ⟨r, get_app hr, hb⟩
  nn := Nat.le_trans h.nn hN
  hi j r hr := by
    rcases get_inv hr with hr1 | ⟨_, e⟩
    · exact Nat.le_trans (h.hi j r hr1) hN
    · rw [e]; exact hx
  tmp q v e := by
    rw [hT] at e
    split at e
    · rename_i hd; cases e
      exact .inl ⟨rs.length, x, get_last, hd, rfl⟩
    · rename_i hd
      rcases h.tmp q v e with ⟨j, r, hr, h1⟩ | ⟨h0, hno⟩
      · exact .inl ⟨j, r, get_app hr, h1⟩
      · refine .inr ⟨h0, fun j r hr => ?_⟩
        rcases get_inv hr with hr1 | ⟨_, e⟩
        · exact hno j r hr1
        · rw [e]; exact hd
  mem q o e := by
    rw [setL_same, setL_same]
    exact hH q o e
  pend p hp := by
    obtain ⟨r, hr, h1⟩ := h.pend p hp
    exact ⟨r, get_app hr, h1⟩
  pends j r y hr hk' := by
    rcases get_inv hr with hr1 | ⟨_, e⟩
    · exact h.pends j r y hr1 hk'
    · rw [e, hk] at hk'; cases hk'
  snap y hy := by
    rcases List.mem_cons.1 hy with rfl | hy
    · exact ⟨x, M, by show (rs ++ [x])[i]? = some x; rw [← h.len]; exact get_last, hk, h.mem.set (Nat.le_refl _)⟩
    · obtain ⟨r, m, hr, h1, h2⟩ := h.snap y hy
      refine ⟨r, m, get_app hr, h1, h2.set ?_⟩
      have hkind := h.plan.kind _ r hr
      unfold KindIs at hkind
      rw [h1] at hkind
      obtain ⟨n, e, _, _, _, _, h6, _⟩ := hkind
      omega
  snaps j r m hr hk' := by
    rcases get_inv hr with hr1 | ⟨ej, e⟩
    · obtain ⟨H, hH, h1⟩ := h.snaps j r m hr1 hk'
      exact ⟨H, by simp [hH], h1⟩
    · exact ⟨s.H, by rw [ej, h.len]; simp, by rw [e]; exact hKs⟩
  last := ⟨by omega, x, by show (rs ++ [x])[i]? = some x; rw [← h.len]; exact get_last, hk⟩
  rm j r m hr hk' := by
    rcases get_inv hr with hr1 | ⟨_, e⟩
    · have := h.rm j r m hr1 hk'; omega
    · rw [e, hk] at hk'; cases hk'
  opens j r m hr hk' := by
    rw [setL_same]
    rcases get_inv hr with hr1 | ⟨ej, e⟩
    · rcases h.opens j r m hr1 hk' with ⟨y, hy, h1, h2⟩ | ⟨_, hb⟩
      · rcases hop y hy with hb | hm
        · exact .inr ⟨by omega, by rw [← h1]; exact hb⟩
        · exact .inl ⟨y, hm, h1, h2⟩
      · exact .inr ⟨by omega, hlb j hb⟩
    · rw [e, hk] at hk'; cases hk'
end
end Go.Proofs.YthidihigidchgaaGreatDoor.Sy

namespace Go.Proofs.YthidihigidchgaaGreatDoor.Sy
section
variable {C : Cx} {P : Program} {nt : Nat} {ops : List Oper} {T0 : Tr AV} {H0 : AH} {N0 : Nat} {rs : List Rec} {KL : Nat → AH} {BL : Nat → Nat} {M : Nat} {s : DS} {i : Nat}
/-- what an operation comes behind -/
structure Bits (rs : List Rec) (after : List Edge) (bits : Nat) : Prop where
  near : ∀ y, bitOn bits y = true → ∃ e ∈ after, Region.binds .any e = true ∧ (y = e.on ∨ ∃ t, rs[e.on]? = some t ∧ bitOn t.bits y = true)
  before : ∀ e ∈ after, Region.binds .any e = true → e.on < rs.length
  lt : ∀ y, bitOn bits y = true → y < rs.length
  trans : ∀ (k : Nat) (t : Rec), rs[k]? = some t → bitOn bits k = true → ∀ y, bitOn t.bits y = true → bitOn bits y = true
theorem get_lt {α : Type} {l : List α} {j : Nat} {x : α} (h : l[j]? = some x) : j < l.length := by
  rcases Nat.lt_or_ge j l.length with h' | h'
  · exact h'
  · rw [List.getElem?_eq_none h'] at h; cases h
theorem Pre.bits (h : Pre P nt ops T0 H0 N0 s i rs KL BL M) (hB : BitsOK rs) {es : List Edge} {k : Nat → Bool} (he : edgesOf s.acc es 0 k = true) : ∃ bits, k bits = true ∧ Bits rs es bits := by
  obtain ⟨bits, hk, hx, ha⟩ := edgesOf_spec es he
  have hx' : ∀ y, bitOn bits y = true ↔ ∃ e ∈ es, Region.binds .any e = true ∧ (y = e.on ∨ ∃ t, rs[e.on]? = some t ∧ bitOn t.bits y = true) := fun y => by
    rw [hx]
    constructor
    · rintro (h0 | ⟨e, he, hb, h1 | ⟨c, hc, h1⟩⟩)
      · rw [bitOn_zero] at h0; cases h0
      · exact ⟨e, he, hb, .inl h1⟩
      · obtain ⟨t, ht, e1⟩ := h.acc e.on c hc
        exact ⟨e, he, hb, .inr ⟨t, ht, by rw [e1]; exact h1⟩⟩
    · rintro ⟨e, he, hb, h1 | ⟨t, ht, h1⟩⟩
      · exact .inr ⟨e, he, hb, .inl h1⟩
      · obtain ⟨c, hc⟩ := ha e he hb
        obtain ⟨t', ht', e1⟩ := h.acc e.on c hc
        rw [ht] at ht'; cases ht'
        exact .inr ⟨e, he, hb, .inr ⟨c, hc, by rw [← e1]; exact h1⟩⟩
  have hbef : ∀ e ∈ es, Region.binds .any e = true → e.on < rs.length := fun e he hb => by
    obtain ⟨c, hc⟩ := ha e he hb
    obtain ⟨t, ht, _⟩ := h.acc e.on c hc
    exact get_lt ht
  refine ⟨bits, hk, fun y hy => (hx' y).1 hy, hbef, fun y hy => ?_, fun k t ht hkb y hy => ?_⟩
  · obtain ⟨e, he, hb, h1 | ⟨t, ht, h1⟩⟩ := (hx' y).1 hy
    · rw [h1]; exact hbef e he hb
    · have := hB.lt e.on t ht y h1
      have := get_lt ht
      omega
  · obtain ⟨e, he, hb, h1 | ⟨t', ht', h1⟩⟩ := (hx' k).1 hkb
    · exact (hx' y).2 ⟨e, he, hb, .inr ⟨t, by rw [← h1]; exact ht, hy⟩⟩
    · exact (hx' y).2 ⟨e, he, hb, .inr ⟨t', ht', hB.trans e.on k t' t ht' ht h1 y hy⟩⟩
/-- the plan with one record more that is no act -/
theorem Pre.add (h : Pre P nt ops T0 H0 N0 s i rs KL BL M) (hone : ∀ (n m : Nat) (o p : Oper) t, ops[n]? = some o → ops[m]? = some p → o.dst = some t → p.dst = some t → n = m)
    {x : Rec} (hop : ops[i]? = some x.o) (B : Bits rs x.o.after.toList x.bits) (hlo : x.lo = s.N) (hhi : s.N ≤ x.hi) (hd : ∀ d, x.o.dst = some d → d < nt)
    (hg : GuardIs rs x (match x.kind with | .skip => false | _ => true)) (hkind : KindIs P nt ops T0 (rs ++ [x]) KL BL M rs.length x)
    (hact : ∀ (j : Nat) (r : Rec) m y, rs[j]? = some r → r.kind = .act m → x.kind = .loc (some y) → Tr.look r.K x.lo = none) (hna : ∀ k, x.kind ≠ .act k) :
    Plan P nt ops T0 H0 N0 (rs ++ [x]) KL BL M := by
  have hi : rs.length = i := h.len
  refine h.plan.add (Nat.le_refl _) (fun _ _ => ⟨rfl, rfl⟩) (by rw [hi]; exact hop) (fun y hy => ?_) (fun e he hb => B.before e (by simpa using he) hb) ⟨by rw [hlo]; exact h.nn, by rw [hlo]; exact hhi⟩
    (fun j r hr => by rw [hlo]; exact h.hi j r hr) (fun d hdd => ⟨hd d hdd, fun j t ht htd => ?_⟩) hg hkind (fun j r m hr hk => ⟨h.rm j r m hr hk, fun n h1 h2 _ => by omega⟩) hact (fun k h1 h2 => by omega) (fun k e => absurd e (hna k))
  · obtain ⟨e, he, h1⟩ := B.near y hy
    exact ⟨e, by simpa using he, h1⟩
  · have := hone j i t.o x.o d (h.plan.same j t ht) hop htd hdd
    have := get_lt ht
    omega
theorem Pre.bl_lt (h : Pre P nt ops T0 H0 N0 s i rs KL BL M) (hB : BitsOK rs) : ∀ m, m ≤ M → ∀ y, bitOn (BL m) y = true → y < i := fun m hm y hy => by
  rcases Nat.eq_zero_or_pos m with h0 | h0
  · rw [h0, h.plan.b0, bitOn_zero] at hy; cases hy
  · obtain ⟨j, t, ht, htk⟩ := h.plan.all m h0 hm
    have hk := h.plan.kind j t ht
    unfold KindIs at hk
    rw [htk] at hk
    obtain ⟨n, e, _, _, _, hbl, _⟩ := hk
    rw [hbl] at hy
    have := hB.lt j t ht y hy
    have := get_lt ht
    have := h.len
    omega
/-- an operation that is not wanted -/
theorem drawnSkip_spec (h : Pre P nt ops T0 H0 N0 s i rs KL BL M) (hone : ∀ (n m : Nat) (o p : Oper) t, ops[n]? = some o → ops[m]? = some p → o.dst = some t → p.dst = some t → n = m)
    {o : Oper} {bits : Nat} {k : Kds} (hop : ops[i]? = some o) (B : Bits rs o.after.toList bits)
    (hg : GuardIs rs ⟨o, bits, .tuple [], s.N, s.N, .skip, .e, .e⟩ false) (hd : drawnSkip nt i o bits s k = true) :
    ∃ s' x, k s' = true ∧ x.o = o ∧ x.bits = bits ∧ Pre P nt ops T0 H0 N0 s' (i + 1) (rs ++ [x]) KL BL M := by
  obtain ⟨T, H, N, acc, pend, op, snaps, last⟩ := s
  obtain ⟨T', hk, hT, hdn⟩ := put_spec (show put T nt o.dst (.tuple []) (fun T' => drawnFin ⟨T, H, N, acc, pend, op, snaps, last⟩ i bits k T' H N pend op snaps last) = true from hd)
  obtain ⟨acc', hk, hacc⟩ := drawnFin_spec hk
  refine ⟨_, ⟨o, bits, .tuple [], N, N, .skip, .e, .e⟩, hk, rfl, rfl, ?_⟩
  have hplan := h.add hone (x := ⟨o, bits, .tuple [], N, N, .skip, .e, .e⟩) hop B rfl (Nat.le_refl _) hdn hg ⟨rfl, rfl⟩ (fun j r m y _ _ e => by cases e) (fun k e => by cases e)
  exact h.more hplan (fun m e => by cases e) (fun y e => by cases e) (Nat.le_refl _) (Nat.le_refl _) hT hacc (fun y hy => hy) (fun m e => by cases e) (fun m e => by cases e)
/-- an operation that only makes -/
theorem drawnLoc_spec (hC : C.OKc P) (h : Pre P nt ops T0 H0 N0 s i rs KL BL M) (hB : BitsOK rs) (hone : ∀ (n m : Nat) (o p : Oper) t, ops[n]? = some o → ops[m]? = some p → o.dst = some t → p.dst = some t → n = m)
    {W : Tr Nat} (hW : ∀ t j, Tr.look W t = some j ↔ ∃ o n, ops[n]? = some o ∧ o.dst = some t ∧ j = n)
    {o : Oper} {bits : Nat} {k : Kds} (hop : ops[i]? = some o) (B : Bits rs o.after.toList bits) (hbe : behind W bits o.op.operands.toList = true)
    (hg : ∀ x : Rec, x.o = o → x.bits = bits → GuardIs rs x true) (hd : drawnLoc C nt i o bits s k = true) :
    ∃ s' x, k s' = true ∧ x.o = o ∧ x.bits = bits ∧ Pre P nt ops T0 H0 N0 s' (i + 1) (rs ++ [x]) KL BL M := by
  obtain ⟨T, H, N, acc, pend, op, snaps, last⟩ := s
  obtain ⟨R, hd, hR⟩ := onlyK_spec _ (show onlyK T o.op.operands.toList .e (fun R => opA o.op C R .e N o.type fun r H' N' => match r with
    | .val v => put T nt o.dst v fun T => match Tr.hasK H' N with
      | false => drawnFin ⟨_, H, N, acc, pend, op, snaps, last⟩ i bits k T H N' pend op snaps last
      | true => Tr.get H' N (drawnNew i bits ⟨_, H, N, acc, pend, op, snaps, last⟩ k T N')
    | _ => false) = true from hd)
  have hR' : ∀ q v, Tr.look R q = some v → Tr.look T q = some v ∧ Operand.tmp q ∈ o.op.operands.toList := fun q v e => (hR q v e).resolve_left (by rw [Tr.look_e]; simp)
  have hlt : ∀ y, bitOn bits y = true → y < i := fun y hy => by rw [← h.len]; exact B.lt y hy
  have hO : OpFact ops T0 rs bits R := h.operands hW hlt hbe hR'
  obtain ⟨r, K', N', hd, hruns⟩ := opA_spec hC hd
  cases r with
  | val v =>
    obtain ⟨T', hd, hT, hdn⟩ := put_spec (show put T nt o.dst v (fun T' => match Tr.hasK K' N with
      | false => drawnFin ⟨T, H, N, acc, pend, op, snaps, last⟩ i bits k T' H N' pend op snaps last
      | true => Tr.get K' N (drawnNew i bits ⟨T, H, N, acc, pend, op, snaps, last⟩ k T' N')) = true from hd)
    have hdoes := hruns.does1 (nt := nt)
    have hnn : N ≤ N' := hruns.nn
    cases hh : Tr.hasK K' N with
    | false =>
      rw [hh] at hd
      obtain ⟨acc', hk, hacc⟩ := drawnFin_spec (show drawnFin ⟨T, H, N, acc, pend, op, snaps, last⟩ i bits k T' H N' pend op snaps last = true from hd)
      refine ⟨_, ⟨o, bits, v, N, N', .loc none, R, .e⟩, hk, rfl, rfl, ?_⟩
      have hplan := h.add hone (x := ⟨o, bits, v, N, N', .loc none, R, .e⟩) hop B rfl hnn hdn (hg _ rfl rfl) ⟨K', hO.app, hdoes, fun x e => by cases e⟩ (fun j r m y _ _ e => by cases e) (fun k e => by cases e)
      exact h.more hplan (fun m e => by cases e) (fun y e => by cases e) hnn (Nat.le_refl _) hT hacc (fun y hy => hy) (fun m e => by cases e) (fun m e => by cases e)
    | true =>
      rw [hh] at hd
      obtain ⟨ob, hob, hd⟩ := Tr.get_spec (show Tr.get K' N (drawnNew i bits ⟨T, H, N, acc, pend, op, snaps, last⟩ k T' N') = true from hd)
      have hd : (match newTo N ((i, H) :: snaps) with
        | true => Tr.set H N (some ob) fun H => drawnFin ⟨T, H, N, acc, pend, op, snaps, last⟩ i bits k T' H N' (⟨i, N, ob⟩ :: pend) op snaps last
        | false => false) = true := hd
      cases hn : newTo N ((i, H) :: snaps) with
      | false => rw [hn] at hd; cases hd
      | true =>
        rw [hn] at hd
        have hnew := newTo_spec hn
        obtain ⟨H', hd, hH⟩ := Tr.set_spec (show Tr.set H N (some ob) (fun H => drawnFin ⟨T, H, N, acc, pend, op, snaps, last⟩ i bits k T' H N' (⟨i, N, ob⟩ :: pend) op snaps last) = true from hd)
        obtain ⟨acc', hk, hacc⟩ := drawnFin_spec hd
        refine ⟨_, ⟨o, bits, v, N, N', .loc (some ob), R, .e⟩, hk, rfl, rfl, ?_⟩
        have hplan := h.add hone (x := ⟨o, bits, v, N, N', .loc (some ob), R, .e⟩) hop B rfl hnn hdn (hg _ rfl rfl) ⟨K', hO.app, hdoes, fun x e => by cases e; exact hob⟩
          (fun j r m y hr hk _ => by
            obtain ⟨H1, hH1, hsub⟩ := h.snaps j r m hr hk
            have := hnew (j, H1) (List.mem_cons_of_mem _ hH1)
            show Tr.look r.K N = none
            cases e : Tr.look r.K N with
            | none => rfl
            | some o' => rw [hsub N o' e] at this; cases this) (fun k e => by cases e)
        refine h.make hplan rfl rfl hnn (Nat.le_refl _) ?_ hT hacc hH
        cases hb : bitOn (BL M) i with
        | false => rfl
        | true => have := h.bl_lt hB M (Nat.le_refl _) i hb; omega
  | _ => cases hd
end
end Go.Proofs.YthidihigidchgaaGreatDoor.Sy

namespace Go.Proofs.YthidihigidchgaaGreatDoor.Sy
section
variable {C : Cx} {P : Program} {nt : Nat} {ops : List Oper} {T0 : Tr AV} {H0 : AH} {N0 : Nat} {rs : List Rec} {KL : Nat → AH} {BL : Nat → Nat} {M : Nat} {s : DS} {i : Nat}
/-- an operation that reads -/
theorem drawnRead_spec (hC : C.OKc P) (h : Pre P nt ops T0 H0 N0 s i rs KL BL M) (hone : ∀ (n m : Nat) (o p : Oper) t, ops[n]? = some o → ops[m]? = some p → o.dst = some t → p.dst = some t → n = m)
    {W : Tr Nat} (hW : ∀ t j, Tr.look W t = some j ↔ ∃ o n, ops[n]? = some o ∧ o.dst = some t ∧ j = n)
    {o : Oper} {bits : Nat} {k : Kds} (hop : ops[i]? = some o) (B : Bits rs o.after.toList bits) (hbe : behind W bits o.op.operands.toList = true)
    (hg : ∀ x : Rec, x.o = o → x.bits = bits → GuardIs rs x true) (hd : drawnRead C nt i o bits s k = true) :
    ∃ s' x, k s' = true ∧ x.o = o ∧ x.bits = bits ∧ Pre P nt ops T0 H0 N0 s' (i + 1) (rs ++ [x]) KL BL M := by
  obtain ⟨T, H, N, acc, pend, op, snaps, last⟩ := s
  obtain ⟨R, hd, hR⟩ := onlyK_spec _ (show onlyK T o.op.operands.toList .e (fun R => prune bits pend H fun K => readA o.op C R K fun v => match againL C o bits pend R v snaps with
    | true => put T nt o.dst v fun T => drawnFin ⟨_, H, N, acc, pend, op, snaps, last⟩ i bits k T H N pend (⟨i, bits, o, R, v⟩ :: op) snaps last
    | false => false) = true from hd)
  have hR' : ∀ q v, Tr.look R q = some v → Tr.look T q = some v ∧ Operand.tmp q ∈ o.op.operands.toList := fun q v e => (hR q v e).resolve_left (by rw [Tr.look_e]; simp)
  have hlt : ∀ y, bitOn bits y = true → y < i := fun y hy => by rw [← h.len]; exact B.lt y hy
  have hO : OpFact ops T0 rs bits R := h.operands hW hlt hbe hR'
  obtain ⟨K, hd, hK⟩ := prune_spec _ hd
  obtain ⟨v, hd, hread⟩ := readA_spec (P := P) hC hd
  have hd : (match againL C o bits pend R v snaps with
    | true => put T nt o.dst v fun T' => drawnFin ⟨T, H, N, acc, pend, op, snaps, last⟩ i bits k T' H N pend (⟨i, bits, o, R, v⟩ :: op) snaps last
    | false => false) = true := hd
  cases ha : againL C o bits pend R v snaps with
  | false => rw [ha] at hd; cases hd
  | true =>
    rw [ha] at hd
    obtain ⟨T', hd, hT, hdn⟩ := put_spec (show put T nt o.dst v (fun T' => drawnFin ⟨T, H, N, acc, pend, op, snaps, last⟩ i bits k T' H N pend (⟨i, bits, o, R, v⟩ :: op) snaps last) = true from hd)
    obtain ⟨acc', hk, hacc⟩ := drawnFin_spec hd
    refine ⟨_, ⟨o, bits, v, N, N, .read M, R, .e⟩, hk, rfl, rfl, ?_⟩
    have hplan := h.add hone (x := ⟨o, bits, v, N, N, .read M, R, .e⟩) hop B rfl (Nat.le_refl _) hdn (hg _ rfl rfl)
      ⟨rfl, hO.app, fun n hn hlow _ => by
        by_cases e : n = M
        · subst e
          exact ⟨K, hread, (At.seen h.mem h.pend hK).app ⟨rfl, rfl⟩⟩
        · have hnM : n < M := by omega
          obtain ⟨j, t, ht, htk⟩ := h.plan.all (n + 1) (by omega) (by omega)
          have hbj : bitOn bits j = false := hlow hnM j t (get_app ht) htk
          obtain ⟨H1, hH1, _⟩ := h.snaps j t (n + 1) ht htk
          obtain ⟨r', m', hr', hk', hat⟩ := h.snap (j, H1) hH1
          rw [ht] at hr'; cases hr'
          rw [htk] at hk'
          have hm' : m' = n := by cases hk'; rfl
          subst hm'
          obtain ⟨K1, hK1, hread1⟩ := againL_spec (P := P) hC snaps ha (j, H1) hH1 hbj
          exact ⟨K1, hread1, (At.seen hat h.pend hK1).app ⟨rfl, rfl⟩⟩⟩
      (fun j r m y _ _ e => by cases e) (fun k e => by cases e)
    exact h.more hplan (fun m e => by cases e) (fun y e => by cases e) (Nat.le_refl _) (Nat.le_refl _) hT hacc (fun y hy => List.mem_cons_of_mem _ hy) (fun m e => by cases e; exact Nat.le_refl _)
      (fun m e => ⟨⟨i, bits, o, R, v⟩, by simp, rfl, rfl, rfl, rfl, rfl⟩)
/-- what is asked of calls -/
def CallsOK (P : Program) (callF : CallF) : Prop := ∀ f args K N kk, callF f args K N kk = true → ∃ v K' N', kk v K' N' = true ∧ CallsIs P K N f args v K' N'
theorem drawnDone_spec (hC : C.OKc P) (h : Pre P nt ops T0 H0 N0 s i rs KL BL M) (hB : BitsOK rs) (hone : ∀ (n m : Nat) (o p : Oper) t, ops[n]? = some o → ops[m]? = some p → o.dst = some t → p.dst = some t → n = m)
    {o : Oper} {bits : Nat} {k : Kds} (hop : ops[i]? = some o) (B : Bits rs o.after.toList bits)
    (hg : ∀ x : Rec, x.o = o → x.bits = bits → GuardIs rs x true) (hl : match s.last with | none => True | some j => bitOn bits j = true)
    {R : Tr AV} {K K' : AH} {N' : Nat} {v : AV} (hO : OpFact ops T0 rs bits R) (hK : ∀ q o, Tr.look K q = some o → Tr.look s.H q = some o ∧ ∀ p ∈ s.pend, p.id = q → bitOn bits p.at_ = true)
    (hdoes : Does1 P o nt R K s.N v K' N') (hd : drawnDone C nt i o bits s k v K' N' = true) :
    ∃ s' x KL' BL' M', k s' = true ∧ x.o = o ∧ x.bits = bits ∧ Pre P nt ops T0 H0 N0 s' (i + 1) (rs ++ [x]) KL' BL' M' := by
  obtain ⟨T, H, N, acc, pend, op, snaps, last⟩ := s
  obtain ⟨H', hd, hH'⟩ := graft_spec _ (show graft bits pend K' (fun H' => stillL C bits pend H' op fun op' =>
    put T nt o.dst v fun T' => drawnFin ⟨T, H, N, acc, pend, op, snaps, last⟩ i bits k T' H' N' pend op' ((i, H) :: snaps) (some i)) = true from hd)
  obtain ⟨op', hd, hop'⟩ := stillL_spec (P := P) hC _ hd
  obtain ⟨T', hd, hT, hdn⟩ := put_spec hd
  obtain ⟨acc', hk, hacc⟩ := drawnFin_spec hd
  have hi : rs.length = i := h.len
  obtain ⟨hlb, hprev⟩ := h.lastBits hB (bits := bits) hl B.trans
  have hnn : N ≤ N' := hdoes.1
  let x : Rec := ⟨o, bits, v, N, N', .act (M + 1), R, K⟩
  have hAt : At (setL KL (M + 1) K') (setL BL (M + 1) bits) (M + 1) H' pend := fun q o' e => by
    rw [setL_same, setL_same]; exact hH' q o' e
  have hpend : ∀ p ∈ pend, ∃ r : Rec, (rs ++ [x])[p.at_]? = some r ∧ r.kind = .loc (some p.obj) ∧ r.lo = p.id := fun p hp => by
    obtain ⟨r, hr, h1⟩ := h.pend p hp
    exact ⟨r, get_app hr, h1⟩
  have hnone : ∀ (j : Nat) (r : Rec) y, rs[j]? = some r → r.kind = .loc (some y) → bitOn bits j = false → Tr.look K r.lo = none := fun j r y hr hrk hb => by
    cases e : Tr.look K r.lo with
    | none => rfl
    | some o' =>
      obtain ⟨p, hp, h1, h2⟩ := h.pends j r y hr hrk
      have := (hK _ _ e).2 p hp h2
      rw [h1, hb] at this; cases this
  have hplan : Plan P nt ops T0 H0 N0 (rs ++ [x]) (setL KL (M + 1) K') (setL BL (M + 1) bits) (M + 1) := by
    refine h.plan.add (Nat.le_succ _) (fun n hn => ⟨setL_old _ _ hn, setL_old _ _ hn⟩) (by rw [hi]; exact hop) (fun y hy => ?_) (fun e he hb => B.before e (by simpa using he) hb) ⟨h.nn, hnn⟩
      (fun j r hr => h.hi j r hr) (fun d hdd => ⟨hdn d hdd, fun j t ht htd => ?_⟩) (hg x rfl rfl) ?_ (fun j r m hr hrk => ⟨h.rm j r m hr hrk, fun n h1 h2 hb => ?_⟩) (fun j r m y _ _ e => by cases e)
      (fun k h1 h2 => ?_) (fun k e => ?_)
    · obtain ⟨e, he, h1⟩ := B.near y hy
      exact ⟨e, by simpa using he, h1⟩
    · have := hone j i t.o o d (h.plan.same j t ht) hop htd hdd
      have := get_lt ht
      omega
    · refine ⟨M, rfl, hO.app, ?_, ?_, ?_, Nat.le_refl _, ?_, fun k h1 h2 => ?_, fun j t y ht htk hb => ?_⟩
      · show Does1 P o nt R K N v (setL KL (M + 1) K' (M + 1)) N'
        rw [setL_same]; exact hdoes
      · exact (At.seen h.mem h.pend hK).app ⟨setL_old _ _ (Nat.le_refl _), setL_old _ _ (Nat.le_refl _)⟩
      · rw [setL_same]
      · rw [setL_old _ _ (Nat.le_refl _)]; exact hlb
      · obtain ⟨j, t, ht, h3⟩ := hprev k h1 h2
        exact ⟨j, t, get_app ht, h3⟩
      · rcases get_inv ht with ht1 | ⟨_, e⟩
        · exact hnone j t y ht1 htk hb
        · rw [e] at htk; cases htk
    · have hn : n = M + 1 := by omega
      subst hn
      rw [setL_same] at hb
      rcases h.opens j r m hr hrk with ⟨y, hy, e1, e2, e3, e4, e5⟩ | ⟨_, hb'⟩
      · rcases hop' y hy with hb2 | ⟨_, K1, hK1, hread1⟩
        · rw [e1, hb] at hb2; cases hb2
        · refine ⟨K1, by rw [← e2, ← e4, ← e5]; exact hread1, ?_⟩
          rw [← e3]
          exact At.seen hAt hpend hK1
      · have := hlb j hb'; rw [hb] at this; cases this
    · have : k = M + 1 := by omega
      rw [this]
    · cases e; exact Nat.lt_succ_self _
  refine ⟨_, x, setL KL (M + 1) K', setL BL (M + 1) bits, M + 1, hk, rfl, rfl, ?_⟩
  exact h.act (x := x) hplan rfl hnn (Nat.le_refl _) hT hacc (fun q o' e => (hK q o' e).1) hH' hlb (fun y hy => (hop' y hy).imp id fun h1 => h1.1)
theorem drawnGo_spec (hC : C.OKc P) {callF : CallF} (hcall : CallsOK P callF) (h : Pre P nt ops T0 H0 N0 s i rs KL BL M) (hB : BitsOK rs) (hone : ∀ (n m : Nat) (o p : Oper) t, ops[n]? = some o → ops[m]? = some p → o.dst = some t → p.dst = some t → n = m)
    {W : Tr Nat} (hW : ∀ t j, Tr.look W t = some j ↔ ∃ o n, ops[n]? = some o ∧ o.dst = some t ∧ j = n)
    {o : Oper} {bits : Nat} {k : Kds} (hop : ops[i]? = some o) (B : Bits rs o.after.toList bits) (hbe : behind W bits o.op.operands.toList = true)
    (hg : ∀ x : Rec, x.o = o → x.bits = bits → GuardIs rs x true) (hl : match s.last with | none => True | some j => bitOn bits j = true) (hd : drawnGo C nt callF i o bits s k = true) :
    ∃ s' x KL' BL' M', k s' = true ∧ x.o = o ∧ x.bits = bits ∧ Pre P nt ops T0 H0 N0 s' (i + 1) (rs ++ [x]) KL' BL' M' := by
  have hd : onlyK s.T o.op.operands.toList .e (fun R => prune bits s.pend s.H fun K => opA o.op C R K s.N o.type fun r K N => match r with
    | .val v => drawnDone C nt i o bits s k v K N
    | .skip => drawnDone C nt i o bits s k (.tuple []) K N
    | .enter f args => callF f args K N (drawnDone C nt i o bits s k)
    | _ => false) = true := by obtain ⟨T, H, N, acc, pend, op, snaps, last⟩ := s; exact hd
  obtain ⟨R, hd, hR⟩ := onlyK_spec _ hd
  have hR' : ∀ q v, Tr.look R q = some v → Tr.look s.T q = some v ∧ Operand.tmp q ∈ o.op.operands.toList := fun q v e => (hR q v e).resolve_left (by rw [Tr.look_e]; simp)
  have hlt : ∀ y, bitOn bits y = true → y < i := fun y hy => by rw [← h.len]; exact B.lt y hy
  have hO : OpFact ops T0 rs bits R := h.operands hW hlt hbe hR'
  obtain ⟨K, hd, hK⟩ := prune_spec _ hd
  obtain ⟨r, K', N', hd, hruns⟩ := opA_spec hC hd
  cases r with
  | val v => exact drawnDone_spec hC h hB hone hop B hg hl hO hK hruns.does1 hd
  | skip => exact drawnDone_spec hC h hB hone hop B hg hl hO hK hruns.does1skip hd
  | enter f args =>
    obtain ⟨v, K2, N2, hd, hc⟩ := hcall _ _ _ _ _ hd
    exact drawnDone_spec hC h hB hone hop B hg hl hO hK (hruns.does1call hc) hd
  | _ => cases hd
end
end Go.Proofs.YthidihigidchgaaGreatDoor.Sy

namespace Go.Proofs.YthidihigidchgaaGreatDoor.Sy
section
variable {C : Cx} {P : Program} {nt : Nat} {ops : List Oper} {T0 : Tr AV} {H0 : AH} {N0 : Nat}
theorem drawnOp_spec {rs : List Rec} {KL : Nat → AH} {BL : Nat → Nat} {M : Nat} {s : DS} {i : Nat} (hC : C.OKc P) {callF : CallF} (hcall : CallsOK P callF) (h : Pre P nt ops T0 H0 N0 s i rs KL BL M) (hB : BitsOK rs)
    (hone : ∀ (n m : Nat) (o p : Oper) t, ops[n]? = some o → ops[m]? = some p → o.dst = some t → p.dst = some t → n = m)
    {W : Tr Nat} (hW : ∀ t j, Tr.look W t = some j ↔ ∃ o n, ops[n]? = some o ∧ o.dst = some t ∧ j = n)
    {o : Oper} {bits : Nat} {k : Kds} (hop : ops[i]? = some o) (B : Bits rs o.after.toList bits) (hbe : behind W bits o.op.operands.toList = true)
    (hg : ∀ x : Rec, x.o = o → x.bits = bits → GuardIs rs x true) (hd : drawnOp C nt callF i o bits s k = true) :
    ∃ s' x KL' BL' M', k s' = true ∧ x.o = o ∧ x.bits = bits ∧ Pre P nt ops T0 H0 N0 s' (i + 1) (rs ++ [x]) KL' BL' M' := by
  have act : drawnAct C nt callF i o bits s k = true → ∃ s' x KL' BL' M', k s' = true ∧ x.o = o ∧ x.bits = bits ∧ Pre P nt ops T0 H0 N0 s' (i + 1) (rs ++ [x]) KL' BL' M' := by
    intro hd
    unfold drawnAct at hd
    split at hd
    · rename_i e
      exact drawnGo_spec hC hcall h hB hone hW hop B hbe hg (by rw [e]; trivial) hd
    · rename_i j e
      split at hd
      · rename_i hb
        exact drawnGo_spec hC hcall h hB hone hW hop B hbe hg (by rw [e]; exact hb) hd
      · cases hd
  unfold drawnOp at hd
  split at hd
  · exact act hd
  · split at hd
    · obtain ⟨s', x, h1⟩ := drawnLoc_spec hC h hB hone hW hop B hbe hg hd
      exact ⟨s', x, KL, BL, M, h1⟩
    · obtain ⟨s', x, h1⟩ := drawnRead_spec hC h hone hW hop B hbe hg hd
      exact ⟨s', x, KL, BL, M, h1⟩
    · exact act hd
theorem drawnL_spec (hC : C.OKc P) {callF : CallF} (hcall : CallsOK P callF) (hone : ∀ (n m : Nat) (o p : Oper) t, ops[n]? = some o → ops[m]? = some p → o.dst = some t → p.dst = some t → n = m)
    {W : Tr Nat} (hW : ∀ t j, Tr.look W t = some j ↔ ∃ o n, ops[n]? = some o ∧ o.dst = some t ∧ j = n) {k : Kds} :
    ∀ (r : List Oper) (i : Nat) (s : DS) (rs : List Rec) (KL : Nat → AH) (BL : Nat → Nat) (M : Nat), i + r.length = ops.length → (∀ n, r[n]? = ops[i + n]?) → Pre P nt ops T0 H0 N0 s i rs KL BL M → BitsOK rs → drawnL C nt callF ops W r i s k = true →
    ∃ s' rs' KL' BL' M', k s' = true ∧ Pre P nt ops T0 H0 N0 s' ops.length rs' KL' BL' M'
  | [], i, s, rs, KL, BL, M, hl, _, h, _, hd => by
    have : i = ops.length := by simpa using hl
    exact ⟨s, rs, KL, BL, M, hd, by rw [← this]; exact h⟩
  | o :: r, i, s, rs, KL, BL, M, hl, hr, h, hB, hd => by
    obtain ⟨bits, hd, B⟩ := h.bits hB (show edgesOf s.acc o.after.toList 0 (fun bits => match behind W bits o.op.operands.toList with
      | false => false
      | true => drawnChk C nt callF ops i o bits s (fun s => fzNat (Nat.succ i) fun i => drawnL C nt callF ops W r i s k) (guardOn o bits)) = true from hd)
    have hop : ops[i]? = some o := by have := hr 0; simpa using this.symm
    cases hbe : behind W bits o.op.operands.toList with
    | false => rw [hbe] at hd; cases hd
    | true =>
      rw [hbe] at hd
      have hd : drawnChk C nt callF ops i o bits s (fun s => fzNat (Nat.succ i) fun i => drawnL C nt callF ops W r i s k) (guardOn o bits) = true := hd
      cases hgo : guardOn o bits with
      | false => rw [hgo] at hd; cases hd
      | true =>
        rw [hgo] at hd
        obtain ⟨w, hd, hw⟩ := wantedA_spec (show wantedA s.T ops o (fun w => match w with
          | true => drawnOp C nt callF i o bits s (fun s => fzNat (Nat.succ i) fun i => drawnL C nt callF ops W r i s k)
          | false => drawnSkip nt i o bits s (fun s => fzNat (Nat.succ i) fun i => drawnL C nt callF ops W r i s k)) = true from hd)
        have hg : ∀ x : Rec, x.o = o → x.bits = bits → GuardIs rs x w := fun x e1 e2 => by
          refine h.guard hone (by rw [e1, e2]; exact hgo) (fun y hy => ?_) (by rw [e1]; exact hw)
          rw [e2] at hy
          rw [← h.len]; exact B.lt y hy
        have key : ∃ s' x KL' BL' M', (fzNat (Nat.succ i) fun i => drawnL C nt callF ops W r i s' k) = true ∧ x.o = o ∧ x.bits = bits ∧ Pre P nt ops T0 H0 N0 s' (i + 1) (rs ++ [x]) KL' BL' M' := by
          cases w with
          | true => exact drawnOp_spec hC hcall h hB hone hW hop B hbe hg hd
          | false =>
            obtain ⟨s', x, h1⟩ := drawnSkip_spec h hone hop B (hg _ rfl rfl) hd
            exact ⟨s', x, KL, BL, M, h1⟩
        obtain ⟨s', x, KL', BL', M', hd, e1, e2, h'⟩ := key
        rw [fzNat_eq] at hd
        refine drawnL_spec hC hcall hone hW r (i + 1) s' (rs ++ [x]) KL' BL' M' (by simp at hl; omega) (fun n => ?_) h' (hB.add (by rw [e2]; exact B.lt) (by rw [e2]; exact B.trans)) hd
        have := hr (n + 1)
        rw [show i + 1 + n = i + (n + 1) from by omega, ← this]
        rfl
/-- what an open region comes to -/
def RegionIs (P : Program) (nt : Nat) (ops : Array Oper) (T : Tr AV) (H : AH) (N : Nat) (T' : Tr AV) (H' : AH) (N' : Nat) : Prop :=
  N ≤ N' ∧ ∀ η w (a : Act), Mem η H w → Fresh η N N' → TRel η T nt a.tmps → ∀ (Q : Exit → Act → World → Prop),
    (∀ η' a' w', Evo η H N w η' H' N' w' → TRel η' T' nt a'.tmps → a'.defers = a.defers → Q .normal a' w') → ∀ id, (Code.region id ops true).wp P Q a w
theorem pre_nil : Pre P nt ops T0 H0 N0 ⟨T0, H0, N0, .e, [], [], [], none⟩ 0 [] (fun _ => H0) (fun _ => 0) 0 where
  plan := ⟨rfl, rfl, fun i r h => by simp at h, fun i r h => by simp at h, fun i r h => by simp at h, fun i r h => by simp at h, fun i j r s _ h => by simp at h, fun i r d h => by simp at h,
    fun i r h => by simp at h, fun i r h => by simp at h, fun k h1 h2 => by omega, fun i j r s k h => by simp at h⟩
  len := rfl
  acc j b e := by rw [Tr.look_e] at e; cases e
  nn := Nat.le_refl _
  hi j r h := by simp at h
  tmp q v e := .inr ⟨e, fun j r h => by simp at h⟩
  mem q o e := .inl e
  pend p hp := by cases hp
  pends j r x h := by simp at h
  snap x hx := by cases hx
  snaps j r m h := by simp at h
  last := rfl
  rm j r m h := by simp at h
  opens j r m h := by simp at h
theorem drawnA_spec (hC : C.OKc P) (hmix : P.follows .mixedOrders = true) {callF : CallF} (hcall : CallsOK P callF) {oa : Array Oper} {T : Tr AV} {H : AH} {N : Nat} {k : Tr AV → AH → Nat → Bool} (hd : drawnA C nt callF oa.toList T H N k = true) :
    ∃ T' H' N', k T' H' N' = true ∧ RegionIs P nt oa T H N T' H' N' := by
  obtain ⟨W, hd, hW, _, hone⟩ := writers_spec _ _ (show writers oa.toList 0 .e (fun W => drawnL C nt callF oa.toList W oa.toList 0 ⟨T, H, N, .e, [], [], [], none⟩ fun s => match s with
    | ⟨T, H, N, _, _, _, _, _⟩ => k T H N) = true from hd)
  have hW' : ∀ t j, Tr.look W t = some j ↔ ∃ (o : Oper) (n : Nat), oa.toList[n]? = some o ∧ o.dst = some t ∧ j = n := fun t j => by
    rw [hW, Tr.look_e]
    constructor
    · rintro (h | ⟨o, n, h1, h2, h3⟩)
      · cases h
      · exact ⟨o, n, h1, h2, by omega⟩
    · rintro ⟨o, n, h1, h2, h3⟩
      exact .inr ⟨o, n, h1, h2, by omega⟩
  obtain ⟨s, rs, KL, BL, M, hk, h⟩ := drawnL_spec hC hcall hone hW' oa.toList 0 _ [] (fun _ => H) (fun _ => 0) 0 (by simp) (fun n => by simp) (pre_nil (P := P) (nt := nt) (ops := oa.toList) (T0 := T) (H0 := H) (N0 := N))
    ⟨fun j r h => by simp at h, fun j k r t h => by simp at h⟩ hd
  have hk : k s.T s.H s.N = true := by obtain ⟨T', H', N', _, _, _, _, _⟩ := s; exact hk
  refine ⟨s.T, s.H, s.N, hk, h.nn, fun η w a hm hf hT Q hQ id => wp_region_any hmix ?_⟩
  have hlen : rs.length = oa.toList.length := h.len
  have hz : ∀ j, (Array.replicate oa.size false).getD j false = false := fun j => by
    simp [Array.getD_eq_getD_getElem?, Array.getElem?_replicate]
    split <;> rfl
  have hm1 : Mem η H { w with drawn := w.drawn + 1 } := Mem.still (w' := { w with drawn := w.drawn + 1 }) hm rfl
  have hc0 : Conc nt oa.toList T H rs KL BL M η { w with drawn := w.drawn + 1 } a.defers (Array.replicate oa.size false) η { w with drawn := w.drawn + 1 } a (Tr.look H) 0 := by
    refine ⟨.refl hm1, by simp [hlen], fun j r _ hj => (by rw [hz] at hj; cases hj), fun j r m hr hrk => ?_, Nat.zero_le _, fun q o e => ?_, fun j r x _ hj => (by rw [hz] at hj; cases hj), hT.size,
      fun j r d _ hj => (by rw [hz] at hj; cases hj), fun q v hq _ => hT.at_ q v hq, fun q _ => ⟨rfl, rfl⟩, rfl⟩
    · rw [hz]
      have hkd := h.plan.kind j r hr
      unfold KindIs at hkd
      rw [hrk] at hkd
      obtain ⟨n, e, _⟩ := hkd
      constructor
      · intro e; cases e
      · intro e; omega
    · rw [h.plan.k0] at e; exact e
  have e1 : oa.toList.toArray = oa := by simp
  have := plan_any h.plan hlen (N := s.N) (η0 := η) (w0 := { w with drawn := w.drawn + 1 }) (ds := a.defers) hf h.hi (Q := Q) (fun L η' w' a' F m hc hall => ?_) oa.size (Array.replicate oa.size false) η { w with drawn := w.drawn + 1 } a (Tr.look H) 0 hc0
    ⟨List.range oa.size, by simp, fun i hi _ => by simpa using hi⟩
  · rw [e1] at this; exact this
  · have hdone : ∀ (j : Nat) (r : Rec), rs[j]? = some r → L.getD j false = true := fun j r hr => hall j (by have := get_lt hr; omega)
    have hmM : m = M := by
      have h1 := hc.mM
      rcases Nat.eq_zero_or_pos M with h0 | h0
      · omega
      · obtain ⟨j, r, hr, hrk⟩ := h.plan.all M h0 (Nat.le_refl _)
        have := (hc.acts j r M hr hrk).1 (hdone j r hr)
        omega
    subst hmM
    refine hQ η' a' w' ?_ ⟨hc.size, fun q v e => ?_⟩ hc.defers
    · have he := hc.since.evo (N0 := N) (N := s.N) (H := s.H) (fun q o e => ?_) h.nn (fun q hq => hc.names q fun j r hr _ hlo => ?_)
      · exact ⟨he.le, he.out, he.nn, he.mem, he.size, he.keep, he.own, he.mine, ⟨he.like.os, he.like.output, he.like.size, he.like.frozen⟩⟩
      · rcases h.mem q o e with h1 | ⟨p, hp, rfl, rfl, hb⟩
        · exact hc.s1 q o h1
        · obtain ⟨r, hr, hrk, hlo⟩ := h.pend p hp
          rw [← hlo]
          exact hc.s2 p.at_ r p.obj hr (hdone _ r hr) hrk hb
      · have := h.plan.rng j r hr
        have := h.hi j r hr
        omega
    · rcases h.tmp q v e with ⟨j, r, hr, hdst, rfl⟩ | ⟨h0, hno⟩
      · exact hc.got j r q hr (hdone j r hr) hdst
      · refine hc.was q v h0 fun o ho hdst => ?_
        obtain ⟨n, hn⟩ := List.getElem?_of_mem ho
        have hlt := get_lt hn
        have hrn : rs[n]? = some (rs[n]'(by omega)) := by rw [List.getElem?_eq_getElem]
        have hsame := h.plan.same n _ hrn
        rw [hn] at hsame
        have he : o = (rs[n]'(by omega)).o := Option.some.inj hsame
        exact hno n _ hrn (he ▸ hdst)
end
end Go.Proofs.YthidihigidchgaaGreatDoor.Sy
