/- The runner's operations are sound (second part), and memories in part: for every program whose tables are right. -/
import Derived.Test.YthidihigidchgaaGreatDoorSyC
import Derived.Lib.ConvBytes
import Derived.Laws.AppendOwn
import Derived.Maps.RangeRun
import Derived.Laws.Externs
set_option linter.unusedVariables false
set_option linter.unusedSimpArgs false

namespace Go.Proofs.YthidihigidchgaaGreatDoor.Sy

theorem bytesAV_eq : ∀ (l : List Nat) (k : List AV → Bool), bytesAV l k = k (l.map fun x => .int .u8 (.ofNat x))
  | [], _ => rfl
  | x :: l, k => by simp only [bytesAV]; rw [bytesAV_eq]; rfl
theorem γs_bytes (η : Env) : ∀ (l : List Nat), γs η (l.map fun x => AV.int .u8 (.ofNat x)) = some (l.map fun x => .int .u8 (x : Int))
  | [] => by simp [γs]
  | x :: l => by rw [List.map_cons, List.map_cons]; exact γs_cons_mk rfl (γs_bytes η l)
theorem ones_bytes (l : List Nat) : ∀ x ∈ l.map fun x => AV.int .u8 (.ofNat x), x.one = true := by
  intro x hx
  obtain ⟨y, _, rfl⟩ := List.mem_map.1 hx
  rfl
theorem strCells_eq {s : List Nat} (h : ∀ x ∈ s, x ≤ 255) : ((⟨(strB s).toArray⟩ : ByteArray).data.map fun b => Value.int .u8 b.toNat).toList = s.map fun x => .int .u8 (x : Int) := by
  simp only [Array.toList_map, List.toList_toArray, strB, List.map_map]
  apply List.map_congr_left
  intro x hx
  simp only [Function.comp]
  rw [ofNat_toNat (h x hx)]

section
variable {C : Cx} {P : Program} {H : AH} {N : Nat} (hC : C.OK' P)
/-- the cells of a part of a row -/
theorem read_cells {η : Env} {w : World} (hm : Mem η H w) {i o n : Nat} {vs : List AV} {ext : Nat} {pl : Bool} {p : Nat × Nat} (hob : Tr.look H i = some (.cells vs ext pl)) (hp : η.ρ i = some p) (hn : n = 0 ∨ o + n ≤ vs.length) :
    ∃ ys, γs η ((vs.drop o).take n) = some ys ∧ ys.length = n ∧ (loadCells (addr p o) n).run P w = .ok ys.toArray w := by
  obtain ⟨q, hq, hh⟩ := hm.objs i _ hob
  rw [hp] at hq; cases hq
  obtain ⟨ys, hys, hl, hf⟩ := hh.known.slice hn
  have := run_loadCells_list (P := P) w (addr p o) ys fun j y hy => by rw [add_addr]; exact hf j y hy
  rw [hl] at this
  exact ⟨ys, hys, hl, this⟩
theorem ones_of {η : Env} {w : World} (hm : Mem η H w) {i : Nat} {vs : List AV} {ext : Nat} {pl : Bool} (hob : Tr.look H i = some (.cells vs ext pl)) : ∀ x ∈ vs, x.one = true := by
  obtain ⟨q, hq, cs, el, fr, _, _, _, h4, _⟩ := hm.objs i _ hob
  intro x hx
  obtain ⟨j, hj⟩ := List.getElem?_of_mem hx
  exact (h4 j x hj).1
theorem mem_sub {vs : List AV} {o n : Nat} {x : AV} (h : x ∈ (vs.drop o).take n) : x ∈ vs := List.mem_of_mem_drop (List.mem_of_mem_take h)
/-- what is appended -/
theorem tailK_spec {size : Nat} {x : AV} {k : List AV → Nat → Bool} (h : tailK H size x k = true) : ∃ new n, k new n = true ∧
    ∀ η w x', Mem η H w → x.γ η = some x' → ∃ ys, γs η new = some ys ∧ (x = .nils ∨ ys.length = n * size ∨ ∃ s, x = .str s ∧ ys.length = n) ∧ (Builtin.lenOf x').run P w = .ok n w ∧ (Builtin.firstCells size n x').run P w = .ok ys.toArray w := by
  unfold tailK at h
  split at h
  · refine ⟨[], 0, h, fun η w x' hm hx => ⟨[], γs_nil η, .inl rfl, ?_⟩⟩
    have : x' = .slice none 0 0 := by simp [AV.γ] at hx; exact hx.symm
    subst this
    exact ⟨rfl, rfl⟩
  · rename_i i o n _
    obtain ⟨ob, hob, hk⟩ := Tr.get_spec h
    unfold AObj.onCells at hk
    split at hk
    · obtain ⟨hk, hn⟩ := rdK_spec _ _ _ _ hk
      rw [fzNat_eq] at hk
      refine ⟨_, n, hk, fun η w x' hm hx => ?_⟩
      obtain ⟨p, hp, _, rfl⟩ := γ_slice hx
      obtain ⟨ys, hys, hl, hr⟩ := read_cells (P := P) hm hob hp hn
      exact ⟨ys, hys, .inr (.inl hl), rfl, hr⟩
    · cases hk
  · rename_i i o n _ _
    obtain ⟨ob, hob, hk⟩ := Tr.get_spec h
    unfold AObj.onCells at hk
    split at hk
    · obtain ⟨hk, hn⟩ := rdK_spec _ _ _ _ hk
      rw [fzNat_eq] at hk
      refine ⟨_, n, hk, fun η w x' hm hx => ?_⟩
      obtain ⟨p, _, hp, _, _, rfl⟩ := γ_slicex hx
      obtain ⟨ys, hys, hl, hr⟩ := read_cells (P := P) hm hob hp hn
      exact ⟨ys, hys, .inr (.inl hl), rfl, hr⟩
    · cases hk
  · rename_i s
    split at h
    · rename_i hb
      have hb := allBytes_spec s hb
      rw [bytesAV_eq, lenN_eq] at h
      refine ⟨_, _, h, fun η w x' hm hx => ⟨_, γs_bytes η s, .inr (.inr ⟨s, rfl, by simp⟩), ?_⟩⟩
      rw [str_γ hx]
      refine ⟨by simp [Builtin.lenOf, size_strB], ?_⟩
      simp only [Builtin.firstCells, Sem.run_pure]
      congr 1
      apply Array.ext'
      rw [show (ByteArray.extract ⟨(strB s).toArray⟩ 0 (0 + s.length)) = ⟨(strB s).toArray⟩ from by rw [extract_strB]; simp]
      rw [strCells_eq hb]
    · cases h
  · cases h
theorem nextcap_le {need cap : Nat} (h : cap < need ∨ cap ≤ 1000000000) (hn : need ≤ 1000000000) : Builtin.nextslicecap need cap ≤ 6000000000 := by
  have grow : ∀ (r c : Nat), c ≤ 2000000000 → Builtin.growBy need r c ≤ 6000000000 := by
    intro r
    induction r with
    | zero => intro c hc; simp [Builtin.growBy]; omega
    | succ r ih =>
      intro c hc
      simp only [Builtin.growBy]
      split
      · omega
      · rename_i hlt
        exact ih _ (by omega)
  unfold Builtin.nextslicecap
  split
  · omega
  · split
    · omega
    · exact grow 4 cap (by omega)
theorem cap_fits {need cap bytes : Nat} (h : cap < need ∨ cap ≤ 1000000000) (hn : need ≤ 1000000000) (hb : bytes ≤ 10000) : ¬ (Builtin.nextslicecap need cap * bytes > 2 ^ 48) := by
  have h1 := nextcap_le h hn
  have h2 : Builtin.nextslicecap need cap * bytes ≤ 6000000000 * 10000 := Nat.mul_le_mul h1 hb
  have h3 : (2 : Nat) ^ 48 = 281474976710656 := by decide
  omega
theorem small_spec {n b : Nat} (h : small n b = true) : n ≤ 1000000000 ∧ b ≤ 10000 := by
  unfold small at h
  simp only [Bool.and_eq_true] at h
  exact ⟨Nat.le_of_ble_eq_true h.1, Nat.le_of_ble_eq_true h.2⟩

/-- a row that grows: a new block, of which the first cells are known -/
theorem grow_block {η : Env} {w : World} (hm : Mem η H w) (hf : Fresh η N (N + 1)) {H' : AH} {l : List AV} {ys rest : List Value} {el : TypeId} {size need newCap : Nat} {plain : Bool} (gone : Nat → Prop) (hl : γs η l = some ys) (ho : ∀ x ∈ l, x.one = true)
    (hlen : ys.length = need * size) (hnc : need ≤ newCap) (hrest : rest.length = (newCap - need) * size)
    (hH : ∀ q o, Tr.look H' q = some o → (q = N ∧ o = .cells l size plain) ∨ (q ≠ N ∧ ¬ gone q ∧ Tr.look H q = some o)) {w' : World} (hw : w'.heap = w.heap.push (.cells (ys ++ rest).toArray el)) (hos : w'.os = w.os ∧ w'.tape = w.tape := by exact ⟨rfl, rfl⟩) (hout : w'.output = w.output := by rfl) :
    Evo η H N w (η.bind N (w.heap.size, 0) (some newCap)) H' (N + 1) w' := by
  refine Evo.give hm hf _ _ (.cells l size plain) gone hH (.inr (Nat.le_refl _)) (by rw [hw]; simp) (fun b hb hne => by rw [hw, Array.getElem?_push]; simp at hne; simp [hne]) ?_ (.push hos hout hw)
  refine holds_new (cs := (ys ++ rest).toArray) (el := el) (fr := (0, 0)) (by rw [hw]; simp) (γs_mono (Env.bind_le (hf N (Nat.le_refl _) (Nat.lt_succ_self _))) _ _ hl) (fun j y hy => ?_) ho (fun _ => rfl) (fun j _ => by simp) (fun _ => ⟨newCap, Env.bind_κ .., ?_⟩)
  · rw [List.getElem?_toArray, List.getElem?_append_left]
    · exact hy
    · rcases Nat.lt_or_ge j ys.length with h | h
      · exact h
      · rw [List.getElem?_eq_none h] at hy; cases hy
  · simp only [List.size_toArray, List.length_append, hlen, hrest]
    rw [← Nat.add_mul]
    have : need + (newCap - need) = newCap := by omega
    rw [this]; exact Nat.le_refl _
end
end Go.Proofs.YthidihigidchgaaGreatDoor.Sy

namespace Go.Proofs.YthidihigidchgaaGreatDoor.Sy
section
variable {P : Program}
theorem run_append_in {w w' : World} {t tx tr e : TypeId} {ux : TypeDesc} {i : TypeInfo} {x' : Value} {n : Nat} {a : Addr} {sLen sCap : Nat} {ys : Array Value} (ht : P.underlying t = some (.slice e)) (htx : P.underlying tx = some ux) (hux : ∀ k, ux ≠ .int k) (hi : P.info? e = some i)
    (hx : (Builtin.lenOf x').run P w = .ok n w) (hn : (Builtin.firstCells i.size n x').run P w = .ok ys w) (hle : sLen + n ≤ sCap) (hst : (storeCells (a.add (sLen * i.size)) ys.toList).run P w = .ok () w') :
    (Builtin.append_ #[t, tx] tr #[.slice (some a) sLen sCap, x']).run P w = .ok (.slice (some a) (sLen + n) sCap) w' := by
  have hsz : (sizeOf e).run P w = .ok i.size w := run_sizeOf w (by rw [hi]; rfl)
  cases ux <;> first
    | exact absurd rfl (hux _)
    | (simp only [Builtin.append_, List.getElem?_toArray, List.getElem?_cons_zero, List.getElem?_cons_succ, Sem.run_bind, run_under w ht, run_under w htx, hsz, Result.andThen_ok, Sem.run_pure, Bool.false_eq_true, if_false, hx, Bool.not_false, if_true]
       rw [if_pos hle]
       simp only [Sem.run_bind, Sem.run_pure, Result.andThen_ok, hn, hst, Bool.not_false, if_true])
theorem run_append_nil {w : World} {t tx tr e : TypeId} {ux : TypeDesc} {i : TypeInfo} {x' : Value} {sLen sCap : Nat} {base : Option Addr} (ht : P.underlying t = some (.slice e)) (htx : P.underlying tx = some ux) (hux : ∀ k, ux ≠ .int k) (hi : P.info? e = some i)
    (hx : (Builtin.lenOf x').run P w = .ok 0 w) (hn : (Builtin.firstCells i.size 0 x').run P w = .ok #[] w) (hle : sLen ≤ sCap) :
    (Builtin.append_ #[t, tx] tr #[.slice base sLen sCap, x']).run P w = .ok (.slice base sLen sCap) w := by
  have hsz : (sizeOf e).run P w = .ok i.size w := run_sizeOf w (by rw [hi]; rfl)
  cases base <;> cases ux <;> first
    | exact absurd rfl (hux _)
    | (simp only [Builtin.append_, List.getElem?_toArray, List.getElem?_cons_zero, List.getElem?_cons_succ, Sem.run_bind, run_under w ht, run_under w htx, hsz, Result.andThen_ok, Sem.run_pure, Bool.false_eq_true, if_false, hx, Bool.not_false, if_true]
       rw [if_pos (show sLen + 0 ≤ sCap from hle)]
       simp only [Sem.run_bind, Sem.run_pure, Result.andThen_ok, hn, storeCells, Bool.not_false, if_true, Nat.add_zero])
theorem run_append_out {w : World} {t tx tr e : TypeId} {ux : TypeDesc} {i : TypeInfo} {x' zv : Value} {n : Nat} {base : Option Addr} {sLen sCap : Nat} {ys olds : Array Value} (ht : P.underlying t = some (.slice e)) (htx : P.underlying tx = some ux) (hux : ∀ k, ux ≠ .int k) (hi : P.info? e = some i) (hz : i.zero = some zv)
    (hx : (Builtin.lenOf x').run P w = .ok n w) (hn : (Builtin.firstCells i.size n x').run P { w with drawn := w.drawn + 1 } = .ok ys { w with drawn := w.drawn + 1 })
    (ho : (Builtin.firstCells i.size sLen (.slice base sLen sCap)).run P { w with drawn := w.drawn + 1 } = .ok olds { w with drawn := w.drawn + 1 })
    (hle : ¬ sLen + n ≤ sCap) (hbig : ¬ (Builtin.nextslicecap (sLen + n) sCap * i.bytes > 2 ^ 48)) (hmax : ((sLen + n : Nat) : Int) ≤ IntKind.i64.max) :
    ∀ newCap, newCap = (Question.appendCap (sLen + n) sCap e).cut (w.tape w.drawn (.appendCap (sLen + n) sCap e)) → (Builtin.append_ #[t, tx] tr #[.slice base sLen sCap, x']).run P w =
      .ok (.slice (some ⟨w.heap.size, 0, none⟩) (sLen + n) newCap) { w with drawn := w.drawn + 1, heap := w.heap.push (.cells (olds ++ ys ++ Builtin.zeroCells zv.cells (newCap - (sLen + n))) e) } := by
  have hsz : (sizeOf e).run P w = .ok i.size w := run_sizeOf w (by rw [hi]; rfl)
  have hinf : ∀ w, (typeInfo e).run P w = .ok i w := fun w => run_typeInfo w hi
  have hzero : ∀ w, (zeroValue e).run P w = .ok zv w := fun w => run_zeroValue w (by rw [hi]; simp [hz])
  intro newCap hnc
  subst hnc
  have hm1 : ¬ (((sLen + n : Nat) : Int) > IntKind.i64.max) := by omega
  cases ux <;> first
    | exact absurd rfl (hux _)
    | (simp only [Builtin.append_, List.getElem?_toArray, List.getElem?_cons_zero, List.getElem?_cons_succ, Sem.run_bind, run_under w ht, run_under w htx, hsz, Result.andThen_ok, Sem.run_pure, Bool.false_eq_true, if_false, hx, Bool.not_false, if_true, hinf]
       rw [if_neg hle]
       simp only [Sem.run_bind, Sem.run_pure, Result.andThen_ok, hinf, hm1, false_and, if_false, Bool.false_eq_true, false_or]
       rw [if_neg hbig]
       simp only [Sem.run_bind, Sem.run_pure, Result.andThen_ok, hinf, run_choose, Question.forced, Bool.false_eq_true, if_false, run_askRoom, ho, hn, hzero, newRow, run_newObj, Bool.not_false, if_true])
end
end Go.Proofs.YthidihigidchgaaGreatDoor.Sy

namespace Go.Proofs.YthidihigidchgaaGreatDoor.Sy
section
variable {C : Cx} {P : Program} {H : AH} {N : Nat} {c : Kop} (hC : C.OK' P)

/-- what an append to a slice comes to -/
def AppendIs (P : Program) (H : AH) (N : Nat) (e : TypeId) (i : TypeInfo) (s : AV) (new : List AV) (n : Nat) (v : AV) (H' : AH) (N' : Nat) : Prop :=
  N ≤ N' ∧ ∀ η w s' ys x', Mem η H w → Fresh η N N' → s.γ η = some s' → γs η new = some ys → ys.length = n * i.size → (∀ w2 : World, w2.heap = w.heap → (Builtin.firstCells i.size n x').run P w2 = .ok ys.toArray w2) → (Builtin.lenOf x').run P w = .ok n w →
    ∃ η' w' y, Evo η H N w η' H' N' w' ∧ v.γ η' = some y ∧ ∀ t tx tr ux, P.underlying t = some (.slice e) → P.underlying tx = some ux → (∀ k, ux ≠ .int k) → (Builtin.append_ #[t, tx] tr #[s', x']).run P w = .ok y w'
theorem zeroCells_size (z : Array Value) (n : Nat) : (Builtin.zeroCells z n).size = n * z.size := by simp [Builtin.zeroCells]
/-- a row that grows -/
theorem growA_spec {H0 : AH} {e : TypeId} {i : TypeInfo} {zv : Value} {bytes cap need : Nat} {plain : Bool} {old new : List AV} (hi : P.info? e = some i) (hb : bytes = i.bytes) (hz : i.zero = some zv) (hzs : zv.cells.size = i.size)
    (gone : Nat → Prop) (hH0 : ∀ q o, Tr.look H0 q = some o → ¬ gone q ∧ Tr.look H q = some o)
    (h : growA H0 N i.size bytes cap need plain old new c = true) : ∃ H', c (.val (.slicex N 0 need N 0)) H' (N + 1) = true ∧ (∀ q, Tr.look H' q = if q = N then some (.cells (old ++ new) i.size plain) else Tr.look H0 q) ∧ (∀ x ∈ old ++ new, x.one = true) ∧
    ∀ η w base sLen sCap n ys olds x', Mem η H w → Fresh η N (N + 1) → γs η new = some ys → γs η old = some olds → (∀ x ∈ old, x.one = true) → olds.length = sLen * i.size → ys.length = n * i.size → sLen + n = need → ¬ need ≤ sCap → (sCap < need ∨ sCap ≤ cap) →
      (∀ w2 : World, w2.heap = w.heap → (Builtin.firstCells i.size n x').run P w2 = .ok ys.toArray w2) → (∀ w2 : World, w2.heap = w.heap → (Builtin.firstCells i.size sLen (.slice base sLen sCap)).run P w2 = .ok olds.toArray w2) → (Builtin.lenOf x').run P w = .ok n w →
      ∃ η' w' y, Evo η H N w η' H' (N + 1) w' ∧ (AV.slicex N 0 need N 0).γ η' = some y ∧ ∀ t tx tr ux, P.underlying t = some (.slice e) → P.underlying tx = some ux → (∀ k, ux ≠ .int k) → (Builtin.append_ #[t, tx] tr #[.slice base sLen sCap, x']).run P w = .ok y w' := by
  unfold growA at h
  split at h
  · rename_i hs
    simp only [Bool.and_eq_true] at hs
    obtain ⟨h1, h2⟩ := small_spec hs.1
    obtain ⟨h3, _⟩ := small_spec hs.2
    rw [catK_eq] at h
    obtain ⟨H', hk, hlook, hones⟩ := newCells_spec h
    refine ⟨H', hk, hlook, hones, fun η w base sLen sCap n ys olds x' hm hf hy ho hoo hol hyl hneed hnot hcap hfn hfo hln => ?_⟩
    have hbig : ¬ (Builtin.nextslicecap (sLen + n) sCap * i.bytes > 2 ^ 48) := by
      rw [hneed, ← hb]
      exact cap_fits (hcap.imp id fun h => Nat.le_trans h h3) h1 h2
    have hmax : ((sLen + n : Nat) : Int) ≤ IntKind.i64.max := by
      have : IntKind.i64.max = 9223372036854775807 := by decide
      rw [this]; omega
    have hcat := γs_append ho hy
    obtain ⟨newCap, hnc, -⟩ : ∃ newCap, sLen + n ≤ newCap ∧ True := ⟨sLen + n, Nat.le_refl _, trivial⟩
    clear hnc newCap
    -- the capacity that is drawn hangs on the world alone
    have hrun : ∃ newCap, sLen + n ≤ newCap ∧ ∀ t tx tr ux, P.underlying t = some (.slice e) → P.underlying tx = some ux → (∀ k, ux ≠ .int k) → (Builtin.append_ #[t, tx] tr #[.slice base sLen sCap, x']).run P w =
        .ok (.slice (some ⟨w.heap.size, 0, none⟩) (sLen + n) newCap) { w with drawn := w.drawn + 1, heap := w.heap.push (.cells (olds.toArray ++ ys.toArray ++ Builtin.zeroCells zv.cells (newCap - (sLen + n))) e) } := by
      refine ⟨(Question.appendCap (sLen + n) sCap e).cut (w.tape w.drawn (.appendCap (sLen + n) sCap e)), by simp [Question.cut], fun t tx tr ux ht htx hux => ?_⟩
      exact run_append_out ht htx hux hi hz hln (hfn { w with drawn := w.drawn + 1 } rfl) (hfo { w with drawn := w.drawn + 1 } rfl) (by rw [hneed]; exact hnot) hbig hmax _ rfl
    obtain ⟨newCap, hnc, hrun⟩ := hrun
    refine ⟨_, { w with drawn := w.drawn + 1, heap := w.heap.push (.cells (olds.toArray ++ ys.toArray ++ Builtin.zeroCells zv.cells (newCap - (sLen + n))) e) }, .slice (some ⟨w.heap.size, 0, none⟩) (sLen + n) newCap,
      grow_block (N := N) (el := e) (size := i.size) (need := need) (newCap := newCap) (plain := plain) (rest := (Builtin.zeroCells zv.cells (newCap - (sLen + n))).toList) hm hf gone hcat hones (by rw [List.length_append, hol, hyl, ← Nat.add_mul, hneed]) (by omega)
        (by rw [Array.length_toList, zeroCells_size, hzs, hneed]) (fun q o hq => by
          rw [hlook] at hq
          split at hq
          · rename_i e; cases hq; exact .inl ⟨e, rfl⟩
          · rename_i e
            obtain ⟨h1, h2⟩ := hH0 q o hq
            exact .inr ⟨e, h1, h2⟩) (by
          show w.heap.push _ = w.heap.push _
          congr 2
          apply Array.ext'
          simp), ?_, hrun⟩
    have : 0 + need ≤ newCap := by omega
    simp [AV.γ, Env.bind_ρ, Env.bind_κ, this, addr, hneed]
    omega
  · cases h
end
end Go.Proofs.YthidihigidchgaaGreatDoor.Sy

namespace Go.Proofs.YthidihigidchgaaGreatDoor.Sy
section
variable {C : Cx} {P : Program} {H : AH} {N : Nat} {c : Kop} (hC : C.OK' P)
theorem run_firstCells_slice {w : World} {size n cap : Nat} {p : Nat × Nat} {o : Nat} {ys : List Value} (h : (loadCells (addr p o) (n * size)).run P w = .ok ys.toArray w) : (Builtin.firstCells size n (.slice (some (addr p o)) n cap)).run P w = .ok ys.toArray w := h
theorem appendNils_spec {e : TypeId} {i : TypeInfo} {zv : Value} {new : List AV} {n : Nat} (hi : P.info? e = some i) (hz : i.zero = some zv) (hzs : zv.cells.size = i.size) (hz0 : i.size ≠ 0) (h : appendTo H N i.size i.bytes AV.nils new n c = true) :
    ∃ v H' N', c (.val v) H' N' = true ∧ AppendIs P H N e i AV.nils new n v H' N' := by
  have all : ∀ q o, Tr.look H q = some o → ¬ False ∧ Tr.look H q = some o := fun q o h => ⟨fun h => h, h⟩
  cases n with
  | zero =>
    refine ⟨.nils, H, N, h, Nat.le_refl _, fun η w s' ys x' hm hf hs hy hyl hfn hln => ⟨η, w, s', .refl hm, hs, fun t tx tr ux ht htx hux => ?_⟩⟩
    have : s' = .slice none 0 0 := by simp [AV.γ] at hs; exact hs.symm
    subst this
    have hy0 : ys = [] := List.length_eq_zero_iff.1 (by rw [hyl]; simp)
    subst hy0
    exact run_append_nil ht htx hux hi hln (hfn w rfl) (Nat.le_refl _)
  | succ n =>
    obtain ⟨H', hk, _, _, hr⟩ := growA_spec (gone := fun _ => False) hi rfl hz hzs all h
    refine ⟨_, H', N + 1, hk, Nat.le_succ _, fun η w s' ys x' hm hf hs hy hyl hfn hln => ?_⟩
    have : s' = .slice none 0 0 := by simp [AV.γ] at hs; exact hs.symm
    subst this
    exact hr η w none 0 0 (n + 1) ys [] x' hm hf hy (γs_nil η) (by simp) (by simp) hyl (by omega) (by omega) (.inl (by omega)) hfn (fun w2 _ => rfl) hln
set_option maxHeartbeats 1000000 in
theorem appendSlice_spec {e : TypeId} {i : TypeInfo} {zv : Value} {id o len cap : Nat} {new : List AV} {n : Nat} (hi : P.info? e = some i) (hz : i.zero = some zv) (hzs : zv.cells.size = i.size) (hz0 : i.size ≠ 0) (h : appendTo H N i.size i.bytes (.slice id o len cap) new n c = true) :
    ∃ v H' N', c (.val v) H' N' = true ∧ AppendIs P H N e i (.slice id o len cap) new n v H' N' := by
  have all : ∀ q o, Tr.look H q = some o → ¬ False ∧ Tr.look H q = some o := fun q o h => ⟨fun h => h, h⟩
  simp only [appendTo, fzNat_eq] at h
  split at h
  · rename_i hle
    have hle : len + n ≤ cap := Nat.le_of_ble_eq_true hle
    cases n with
    | zero =>
      refine ⟨_, H, N, h, Nat.le_refl _, fun η w s' ys x' hm hf hs hy hyl hfn hln => ⟨η, w, s', .refl hm, hs, fun t tx tr ux ht htx hux => ?_⟩⟩
      obtain ⟨p, hp, hlc, rfl⟩ := γ_slice hs
      have hy0 : ys = [] := List.length_eq_zero_iff.1 (by rw [hyl]; simp)
      subst hy0
      exact run_append_nil ht htx hux hi hln (hfn w rfl) hlc
    | succ n =>
      obtain ⟨ob, hob, hk⟩ := Tr.get_spec h
      unfold AObj.onCells at hk
      split at hk
      · rename_i vs ext pl
        obtain ⟨vs', hvs', hlaid, hone⟩ := wrK_spec _ _ _ _ hk
        obtain ⟨H', hH', hlook⟩ := Tr.set_spec hvs'
        refine ⟨_, H', N, hH', Nat.le_refl _, fun η w s' ys x' hm hf hs hy hyl hfn hln => ?_⟩
        obtain ⟨p, hp, hlc, rfl⟩ := γ_slice hs
        obtain ⟨w', hr, he⟩ := write_cells (P := P) (N := N) hm hob hp hlaid hone hy hlook
        refine ⟨η, w', .slice (some (addr p o)) (len + (n + 1)) cap, he, by simp only [AV.γ, hp, Option.map_some, if_pos (show Nat.add len (n + 1) ≤ cap from hle)]; rfl, fun t tx tr ux ht htx hux => ?_⟩
        exact run_append_in ht htx hux hi hln (hfn w rfl) hle (by rw [add_addr]; exact hr)
      · cases hk
  · rename_i hgt
    have hgt : ¬ len + n ≤ cap := fun e => by
      have : Nat.ble (Nat.add len n) cap = true := Nat.ble_eq_true_of_le e
      rw [this] at hgt; cases hgt
    cases len with
    | zero =>
      obtain ⟨H', hk, _, _, hr⟩ := growA_spec (gone := fun _ => False) hi rfl hz hzs all h
      refine ⟨_, H', N + 1, hk, Nat.le_succ _, fun η w s' ys x' hm hf hs hy hyl hfn hln => ?_⟩
      obtain ⟨p, hp, hlc, rfl⟩ := γ_slice hs
      exact hr η w _ 0 cap n ys [] x' hm hf hy (γs_nil η) (by simp) (by simp) hyl rfl hgt (.inr (Nat.le_refl _)) hfn (fun w2 _ => by simp [Builtin.firstCells, loadCells, loadCellsFrom]) hln
    | succ len =>
      obtain ⟨ob, hob, hk⟩ := Tr.get_spec h
      unfold AObj.onCells at hk
      split at hk
      · rename_i vs ext pl
        obtain ⟨hk, hn⟩ := rdK_spec _ _ _ _ hk
        obtain ⟨H', hk, _, _, hr⟩ := growA_spec (gone := fun _ => False) hi rfl hz hzs all hk
        refine ⟨_, H', N + 1, hk, Nat.le_succ _, fun η w s' ys x' hm hf hs hy hyl hfn hln => ?_⟩
        obtain ⟨p, hp, hlc, rfl⟩ := γ_slice hs
        obtain ⟨olds, hol, hoe, hor⟩ := read_cells (P := P) hm hob hp hn
        refine hr η w _ (len + 1) cap n ys olds x' hm hf hy hol (fun x hx => ones_of hm hob x (mem_sub hx)) hoe hyl rfl hgt (.inr (Nat.le_refl _)) hfn (fun w2 hw2 => ?_) hln
        obtain ⟨olds2, hol2, _, hor2⟩ := read_cells (P := P) (Mem.still hm hw2) hob hp hn
        rw [hol] at hol2; cases hol2
        exact run_firstCells_slice hor2
      · cases hk
set_option maxHeartbeats 2000000 in
theorem appendSlicex_spec {e : TypeId} {i : TypeInfo} {zv : Value} {id o len y d : Nat} {new : List AV} {n : Nat} (hi : P.info? e = some i) (hz : i.zero = some zv) (hzs : zv.cells.size = i.size) (hz0 : i.size ≠ 0) (h : appendTo H N i.size i.bytes (.slicex id o len y d) new n c = true) :
    ∃ v H' N', c (.val v) H' N' = true ∧ AppendIs P H N e i (.slicex id o len y d) new n v H' N' := by
  have all : ∀ q o, Tr.look H q = some o → ¬ False ∧ Tr.look H q = some o := fun q o h => ⟨fun h => h, h⟩
  cases n with
  | zero =>
    refine ⟨_, H, N, h, Nat.le_refl _, fun η w s' ys x' hm hf hs hy hyl hfn hln => ⟨η, w, s', .refl hm, hs, fun t tx tr ux ht htx hux => ?_⟩⟩
    obtain ⟨p, cc, hp, hcc, hlc, rfl⟩ := γ_slicex hs
    have hy0 : ys = [] := List.length_eq_zero_iff.1 (by rw [hyl]; simp)
    subst hy0
    exact run_append_nil ht htx hux hi hln (hfn w rfl) (by omega)
  | succ n =>
    simp only [appendTo] at h
    rw [fzNat_eq] at h
    split at h
    · rename_i hyo
      simp only [Bool.and_eq_true] at hyo
      have hyid := Nat.eq_of_beq_eq_true hyo.1
      have hod : o = d * i.size := Nat.eq_of_beq_eq_true hyo.2
      subst hyid
      obtain ⟨ob, hob, hk⟩ := Tr.get_spec h
      unfold AObj.onCells at hk
      split at hk
      · rename_i vs ext pl
        dsimp only at hk
        split at hk
        · rename_i hext
          have hext := Nat.eq_of_beq_eq_true hext
          obtain ⟨hk, hn⟩ := rdK_spec _ _ _ _ hk
          obtain ⟨H0, hk, hl0⟩ := Tr.set_spec hk
          have hgone : ∀ q ob, Tr.look H0 q = some ob → ¬ q = y ∧ Tr.look H q = some ob := fun q ob hq => by
            rw [hl0] at hq
            split at hq
            · cases hq
            · rename_i e; exact ⟨e, hq⟩
          obtain ⟨H', hk, hlook, hones, hr⟩ := growA_spec (H := H) (gone := fun q => q = y) hi rfl hz hzs hgone hk
          refine ⟨_, H', N + 1, hk, Nat.le_succ _, fun η w s' ys x' hm hf hs hy hyl hfn hln => ?_⟩
          obtain ⟨p, cc, hp, hcc, hlc, rfl⟩ := γ_slicex hs
          obtain ⟨olds, hol, hoe, hor⟩ := read_cells (P := P) hm hob hp hn
          by_cases hroom : len + (n + 1) ≤ cc - d
          · -- there is room: the block is written
            obtain ⟨q, hq, cs, el, fr, h1, h2, h3, h4, h5⟩ := hm.objs y _ hob
            rw [hp] at hq; cases hq
            have hfit : p.2 + o + len * i.size + ys.length ≤ cs.size := by
              obtain ⟨c0, hc0, hsz⟩ := h5 (by rw [hext]; exact hz0)
              rw [hcc] at hc0; cases hc0
              rw [hext] at hsz
              have e1 : o + len * i.size + ys.length = (d + len + (n + 1)) * i.size := by rw [hod, hyl, Nat.add_mul (d + len), Nat.add_mul d len]
              have e2 : (d + len + (n + 1)) * i.size ≤ cc * i.size := Nat.mul_le_mul_right _ (by omega)
              omega
            have hyone : ∀ v ∈ ys, (∀ x, v ≠ .agg x) ∧ ∀ x, v ≠ .tuple x := by
              intro v hv
              obtain ⟨j, hj⟩ := List.getElem?_of_mem hv
              obtain ⟨u, hu⟩ : ∃ u, new[j]? = some u := by
                have : j < ys.length := by
                  rcases Nat.lt_or_ge j ys.length with h | h
                  · exact h
                  · rw [List.getElem?_eq_none h] at hj; cases hj
                exact ⟨new[j]'(by rw [← γs_length hy]; exact this), by rw [List.getElem?_eq_getElem]⟩
              obtain ⟨z, hz, hg⟩ := γs_get hy hu
              rw [hj] at hz; cases hz
              exact one_γ hg (hones u (List.mem_append_right _ (List.mem_of_getElem? hu)))
            have hst := run_storeCells (P := P) p.1 (p.2 + (o + len * i.size)) el fr ys 0 cs w h1 h3 (by omega) hyone
            have hcat := γs_append hol hy
            refine ⟨_, _, .slice (some (addr p o)) (len + (n + 1)) (cc - d), Evo.give hm hf (p.1, p.2 + o) (some (cc - d)) (.cells ((vs.drop o).take (len.mul i.size) ++ new) i.size false) (fun q => q = y) (fun q oq hq => ?_) (.inl ⟨y, _, p, rfl, hob, rfl, hp, rfl⟩) (w' := { w with heap := w.heap.setIfInBounds p.1 (.cells (layArr cs (p.2 + (o + len * i.size)) ys) el fr) }) (by simp) (fun b hb hne => by rw [Array.getElem?_setIfInBounds_ne (fun e => hne e.symm)]) ?_ (.set ⟨rfl, rfl⟩ rfl rfl (fun y e => by rw [h1] at e; cases e; rfl)), ?_, fun t tx tr ux ht htx hux => ?_⟩
            · rw [hlook] at hq
              split at hq
              · rename_i e; cases hq; exact .inl ⟨e, rfl⟩
              · rename_i e
                obtain ⟨g1, g2⟩ := hgone q oq hq
                exact .inr ⟨e, g1, g2⟩
            · refine ⟨layArr cs (p.2 + (o + len * i.size)) ys, el, fr, setIB_same h1 _, by simp, by rw [layArr_size]; exact h3, fun j v hv => ?_, fun _ => ⟨_, Env.bind_κ .., ?_⟩⟩
              · obtain ⟨z, hz, hg⟩ := γs_get hcat hv
                refine ⟨hones v (List.mem_of_getElem? hv), z, γ_mono (Env.bind_le (hf N (Nat.le_refl _) (Nat.lt_succ_self _))) v z hg, ?_⟩
                rw [layArr_get _ _ _ (by omega)]
                rw [List.getElem?_append] at hz
                show (if p.2 + (o + len * i.size) ≤ p.2 + o + j ∧ p.2 + o + j < p.2 + (o + len * i.size) + ys.length then ys[p.2 + o + j - (p.2 + (o + len * i.size))]? else cs[p.2 + o + j]?) = some z
                have hoe' : olds.length = len * i.size := hoe
                split at hz
                · rename_i hj
                  rw [if_neg (by omega)]
                  rw [List.getElem?_append_left (by rw [← γs_length hol]; exact hj)] at hv
                  rw [List.getElem?_take] at hv
                  split at hv
                  · rw [List.getElem?_drop] at hv
                    obtain ⟨_, z', hz', hc⟩ := h4 _ v hv
                    rw [hg] at hz'; cases hz'
                    rw [show p.2 + o + j = p.2 + (o + j) from by omega]; exact hc
                  · cases hv
                · rename_i hj
                  have hjl : j - olds.length < ys.length := by
                    rcases Nat.lt_or_ge (j - olds.length) ys.length with h | h
                    · exact h
                    · rw [List.getElem?_eq_none h] at hz; cases hz
                  rw [if_pos (by omega), ← hz]
                  congr 1; omega
              · rw [layArr_size]
                obtain ⟨c0, hc0, hsz⟩ := h5 (by rw [hext]; exact hz0)
                rw [hcc] at hc0; cases hc0
                rw [hext] at hsz
                have e3 : d + (cc - d) = cc := Nat.add_sub_cancel' (Nat.le_of_lt (Nat.lt_of_sub_pos (Nat.lt_of_lt_of_le (Nat.succ_pos n) (Nat.le_trans (Nat.le_add_left _ len) hroom))))
                have e1 : o + (cc - d) * i.size = cc * i.size := by rw [hod, ← Nat.add_mul, e3]
                show p.2 + o + (cc - d) * i.size ≤ cs.size
                omega
            · have hh : 0 + (len + (n + 1)) ≤ cc - d := by omega
              simp only [AV.γ, Env.bind_ρ, Env.bind_κ]
              rw [if_pos (show 0 + Nat.add len (n + 1) ≤ cc - d from hh)]
              rfl
            · refine run_append_in ht htx hux hi hln (hfn w rfl) hroom ?_
              rw [add_addr]
              exact hst
          · refine hr η w _ len (cc - d) (n + 1) ys olds x' hm hf hy hol (fun x hx => ones_of hm hob x (mem_sub hx)) hoe hyl rfl hroom (.inl (Nat.lt_of_not_le hroom)) hfn (fun w2 hw2 => ?_) hln
            obtain ⟨olds2, hol2, _, hor2⟩ := read_cells (P := P) (Mem.still hm hw2) hob hp hn
            rw [hol] at hol2; cases hol2
            exact run_firstCells_slice hor2
        · cases hk
      · cases hk
    · cases h
theorem appendTo_spec {e : TypeId} {i : TypeInfo} {zv : Value} {s : AV} {new : List AV} {n : Nat} (hi : P.info? e = some i) (hz : i.zero = some zv) (hzs : zv.cells.size = i.size) (hz0 : i.size ≠ 0) (h : appendTo H N i.size i.bytes s new n c = true) :
    ∃ v H' N', c (.val v) H' N' = true ∧ AppendIs P H N e i s new n v H' N' := by
  cases s with
  | nils => exact appendNils_spec hi hz hzs hz0 h
  | slice id o len cap => exact appendSlice_spec hi hz hzs hz0 h
  | slicex id o len y d => exact appendSlicex_spec hi hz hzs hz0 h
  | _ => all_goals (simp [appendTo] at h)
end
end Go.Proofs.YthidihigidchgaaGreatDoor.Sy

namespace Go.Proofs.YthidihigidchgaaGreatDoor.Sy
section
variable {C : Cx} {P : Program} {H : AH} {N : Nat} {c : Kop} (hC : C.OK' P)

/-- what something that is asked with values comes to -/
def Does (P : Program) (H : AH) (N : Nat) (args : List AV) (m : List Value → Sem Next) (c : Kop) : Prop :=
  ∃ x H' N', c x H' N' = true ∧ N ≤ N' ∧ ∀ η w ys, Mem η H w → Fresh η N N' → γs η args = some ys → ∃ η' w', Evo η H N w η' H' N' w' ∧ Res P η' x ((m ys).run P w) w'
theorem Does.val {args : List AV} {m : List Value → Sem Value} {v : AV} (hc : c (.val v) H N = true) (h : ∀ η w ys, Mem η H w → γs η args = some ys → ∃ y, v.γ η = some y ∧ (m ys).run P w = .ok y w) :
    Does P H N args (fun ys => do pure (.value (← m ys))) c := ⟨_, _, _, hc, Nat.le_refl _, fun η w ys hm _ hy => by
  obtain ⟨y, hy, hr⟩ := h η w ys hm hy
  exact ⟨η, w, .refl hm, y, hy, by simp [hr]⟩⟩
theorem γs1 {η : Env} {a : AV} {ys : List Value} (h : γs η [a] = some ys) : ∃ x, a.γ η = some x ∧ ys = [x] := by
  obtain ⟨x, s, hx, hs, rfl⟩ := γs_cons.1 h
  rw [γs_nil] at hs; cases hs
  exact ⟨x, hx, rfl⟩
theorem γs2 {η : Env} {a b : AV} {ys : List Value} (h : γs η [a, b] = some ys) : ∃ x y, a.γ η = some x ∧ b.γ η = some y ∧ ys = [x, y] := by
  obtain ⟨x, s, hx, hs, rfl⟩ := γs_cons.1 h
  obtain ⟨y, hy, rfl⟩ := γs1 hs
  exact ⟨x, y, hx, hy, rfl⟩
theorem maxL_spec : ∀ (r : List AV) (x : AV) {k : Kv}, maxL x r k = true → ∃ v, k v = true ∧ ∀ η (y : Value) ys w, x.γ η = some y → γs η r = some ys → ∃ z, v.γ η = some z ∧ (ys.foldlM Builtin.max2 y).run P w = .ok z w
  | [], x, k, h => ⟨x, h, fun η y ys w hy hys => by rw [γs_nil] at hys; cases hys; exact ⟨y, hy, by simp⟩⟩
  | b :: r, a, k, h => by
    simp only [maxL] at h
    unfold maxA at h
    split at h
    · rename_i k1 n k2 m
      split at h
      · rename_i hk
        have := kEq_spec hk; subst this
        split at h
        · rename_i hlt
          rw [ltI_eq] at hlt
          obtain ⟨v, hv, hf⟩ := maxL_spec r _ h
          refine ⟨v, hv, fun η y ys w hy hys => ?_⟩
          obtain ⟨x, s, hx, hs, rfl⟩ := γs_cons.1 hys
          rw [γ_int hy, γ_int hx]
          obtain ⟨z, hz, hr⟩ := hf η (.int k1 m) s w rfl hs
          refine ⟨z, hz, ?_⟩
          simp [List.foldlM_cons, Builtin.max2, of_decide_eq_true hlt, hr]
        · rename_i hlt
          rw [ltI_eq] at hlt
          obtain ⟨v, hv, hf⟩ := maxL_spec r _ h
          refine ⟨v, hv, fun η y ys w hy hys => ?_⟩
          obtain ⟨x, s, hx, hs, rfl⟩ := γs_cons.1 hys
          rw [γ_int hy, γ_int hx]
          obtain ⟨z, hz, hr⟩ := hf η (.int k1 n) s w rfl hs
          refine ⟨z, hz, ?_⟩
          simp [List.foldlM_cons, Builtin.max2, of_decide_eq_false hlt, hr]
      · cases h
    · cases h
theorem minL_spec : ∀ (r : List AV) (x : AV) {k : Kv}, minL x r k = true → ∃ v, k v = true ∧ ∀ η (y : Value) ys w, x.γ η = some y → γs η r = some ys → ∃ z, v.γ η = some z ∧ (ys.foldlM Builtin.min2 y).run P w = .ok z w
  | [], x, k, h => ⟨x, h, fun η y ys w hy hys => by rw [γs_nil] at hys; cases hys; exact ⟨y, hy, by simp⟩⟩
  | b :: r, a, k, h => by
    simp only [minL] at h
    unfold minA at h
    split at h
    · rename_i k1 n k2 m
      split at h
      · rename_i hk
        have := kEq_spec hk; subst this
        split at h
        · rename_i hlt
          rw [ltI_eq] at hlt
          obtain ⟨v, hv, hf⟩ := minL_spec r _ h
          refine ⟨v, hv, fun η y ys w hy hys => ?_⟩
          obtain ⟨x, s, hx, hs, rfl⟩ := γs_cons.1 hys
          rw [γ_int hy, γ_int hx]
          obtain ⟨z, hz, hr⟩ := hf η (.int k1 m) s w rfl hs
          refine ⟨z, hz, ?_⟩
          simp [List.foldlM_cons, Builtin.min2, of_decide_eq_true hlt, hr]
        · rename_i hlt
          rw [ltI_eq] at hlt
          obtain ⟨v, hv, hf⟩ := minL_spec r _ h
          refine ⟨v, hv, fun η y ys w hy hys => ?_⟩
          obtain ⟨x, s, hx, hs, rfl⟩ := γs_cons.1 hys
          rw [γ_int hy, γ_int hx]
          obtain ⟨z, hz, hr⟩ := hf η (.int k1 n) s w rfl hs
          refine ⟨z, hz, ?_⟩
          simp [List.foldlM_cons, Builtin.min2, of_decide_eq_false hlt, hr]
      · cases h
    · cases h
include hC
theorem lenA_spec {t : TypeId} {us : List TypeId} {tr : TypeId} {x : AV} {k : Kv} (h : lenA C H t x k = true) : ∃ v, k v = true ∧
    ∀ η w x', Mem η H w → x.γ η = some x' → ∃ y, v.γ η = some y ∧ (Builtin.len_ (t :: us).toArray tr #[x']).run P w = .ok y w := by
  obtain ⟨d, hd, hund⟩ := under_spec hC.toOK h
  split at hd
  · rw [lenN_eq] at hd
    refine ⟨_, hd, fun η w x' hm hx => ⟨_, rfl, ?_⟩⟩
    rename_i s
    have : x' = .string ⟨(strB s).toArray⟩ := by simpa [AV.γ, strB] using hx.symm
    subst this
    simp [Builtin.len_, run_under w hund, goInt, size_strB]
  · rename_i n _
    refine ⟨_, hd, fun η w x' hm hx => ⟨_, rfl, ?_⟩⟩
    simp [Builtin.len_, run_under w hund, goInt]
  · refine ⟨_, hd, fun η w x' hm hx => ⟨_, rfl, ?_⟩⟩
    have : x' = .slice none 0 0 := by simpa [AV.γ] using hx.symm
    subst this
    simp [Builtin.len_, run_under w hund, goInt]
  · refine ⟨_, hd, fun η w x' hm hx => ⟨_, rfl, ?_⟩⟩
    obtain ⟨p, hp, _, rfl⟩ := γ_slice hx
    simp [Builtin.len_, run_under w hund, goInt]
  · refine ⟨_, hd, fun η w x' hm hx => ⟨_, rfl, ?_⟩⟩
    obtain ⟨p, cc, hp, _, _, rfl⟩ := γ_slicex hx
    simp [Builtin.len_, run_under w hund, goInt]
  · refine ⟨_, hd, fun η w x' hm hx => ⟨_, rfl, ?_⟩⟩
    have : x' = .map none := by simpa [AV.γ] using hx.symm
    subst this
    simp [Builtin.len_, run_under w hund, goInt]
  · obtain ⟨es, cl, hob, hk⟩ := mapOf_spec hd
    rw [fzNat_eq] at hk
    refine ⟨_, hk, fun η w x' hm hx => ⟨_, rfl, ?_⟩⟩
    obtain ⟨l, p, hpp, h0, rfl, hl, hh⟩ := mem_map hm hob hx
    simp [Builtin.len_, run_under w hund, run_getMap hh, goInt, entsγ_length hl]
  · cases hd
theorem zerosA_spec {e : TypeId} {id o n : Nat} {k : AH → Bool} (h : zerosA C H e id o n k = true) : ∃ H', k H' = true ∧
    ∀ η w p, Mem η H w → η.ρ id = some p → ∃ w' zv, Evo η H N w η H' N w' ∧ (zeroValue e).run P w = .ok zv w ∧ (storeCells (addr p o) (Builtin.zeroCells zv.cells n).toList).run P w = .ok () w' := by
  obtain ⟨z, zv, hd, hzγ, hzz⟩ := zero_spec hC.toOK h
  obtain ⟨zs, hd, hcells⟩ := cellsOf_spec hd
  rw [timesK_eq] at hd
  obtain ⟨ob, hob, hk⟩ := Tr.get_spec hd
  unfold AObj.onCells at hk
  split at hk
  · obtain ⟨vs', hset, hlaid, hones⟩ := wrK_spec _ _ _ _ hk
    obtain ⟨H', hH', hlook⟩ := Tr.set_spec hset
    refine ⟨H', hH', fun η w p hm hp => ?_⟩
    obtain ⟨xs, hxs, hxc⟩ := hcells η zv (hzγ η)
    obtain ⟨w', hrun, he⟩ := write_cells (P := P) (N := N) hm hob hp hlaid hones (γs_times hxs n) hlook
    refine ⟨w', zv, he, run_zeroValue w hzz, ?_⟩
    rw [hxc]
    unfold Builtin.zeroCells
    have hr := range_times xs n
    simp only [List.size_toArray] at hr ⊢
    rw [hr]
    exact hrun
  · cases hk
theorem clearA_spec {t : TypeId} {us : List TypeId} {tr : TypeId} {x : AV} {k : AH → Bool} (h : clearA C H t x k = true) : ∃ H', k H' = true ∧
    ∀ η w x', Mem η H w → x.γ η = some x' → ∃ w', Evo η H N w η H' N w' ∧ (Builtin.clear_ (t :: us).toArray tr #[x']).run P w = .ok (.tuple #[]) w' := by
  obtain ⟨d, hd, hund⟩ := under_spec hC.toOK h
  split at hd
  · refine ⟨_, hd, fun η w x' hm hx => ⟨w, .refl hm, ?_⟩⟩
    have : x' = .map none := by simpa [AV.γ] using hx.symm
    subst this
    simp [Builtin.clear_, run_under w hund]
  · obtain ⟨es, cl, hob, hk⟩ := mapOf_spec hd
    obtain ⟨H', hH', hlook⟩ := Tr.set_spec hk
    refine ⟨H', hH', fun η w x' hm hx => ?_⟩
    obtain ⟨l, p, hpp, h0, rfl, hl, hh⟩ := mem_map hm hob hx
    refine ⟨_, write_map (N := N) (es' := []) (l' := []) hm hob hpp h0 hh rfl hlook, ?_⟩
    simp [Builtin.clear_, run_under w hund, run_getMap hh, run_setMap hh]
  · refine ⟨_, hd, fun η w x' hm hx => ⟨w, .refl hm, ?_⟩⟩
    have : x' = .slice none 0 0 := by simpa [AV.γ] using hx.symm
    subst this
    simp [Builtin.clear_, run_under w hund]
  · split at hd
    · refine ⟨_, hd, fun η w x' hm hx => ⟨w, .refl hm, ?_⟩⟩
      obtain ⟨p, hp, _, rfl⟩ := γ_slice hx
      simp [Builtin.clear_, run_under w hund]
    · obtain ⟨H', hk, hr⟩ := zerosA_spec (N := N) hC hd
      refine ⟨H', hk, fun η w x' hm hx => ?_⟩
      obtain ⟨p, hp, _, rfl⟩ := γ_slice hx
      obtain ⟨w', zv, he, hz, hst⟩ := hr η w p hm hp
      exact ⟨w', he, by simp [Builtin.clear_, run_under w hund, hz, hst]⟩
  · split at hd
    · refine ⟨_, hd, fun η w x' hm hx => ⟨w, .refl hm, ?_⟩⟩
      obtain ⟨p, cc, hp, _, _, rfl⟩ := γ_slicex hx
      simp [Builtin.clear_, run_under w hund]
    · obtain ⟨H', hk, hr⟩ := zerosA_spec (N := N) hC hd
      refine ⟨H', hk, fun η w x' hm hx => ?_⟩
      obtain ⟨p, cc, hp, _, _, rfl⟩ := γ_slicex hx
      obtain ⟨w', zv, he, hz, hst⟩ := hr η w p hm hp
      exact ⟨w', he, by simp [Builtin.clear_, run_under w hund, hz, hst]⟩
  · cases hd
theorem appendA_spec {t tx tr : TypeId} {s x : AV} (h : appendA C H N t tx s x c = true) : ∃ v H' N', c (.val v) H' N' = true ∧ N ≤ N' ∧
    ∀ η w s' x', Mem η H w → Fresh η N N' → s.γ η = some s' → x.γ η = some x' → ∃ η' w' y, Evo η H N w η' H' N' w' ∧ v.γ η' = some y ∧ (Builtin.append_ #[t, tx] tr #[s', x']).run P w = .ok y w' := by
  obtain ⟨ux, hd, hux⟩ := under_spec hC.toOK h
  have hnot : (∀ k, ux ≠ .int k) ∧ ∃ e, P.underlying t = some (.slice e) ∧ (C.ty e fun i => C.zero e fun z => cellsOf z fun zs => lenL zs 0 fun zm => match Nat.beq i.size zm with
      | false => false
      | true => tailK H i.size x fun new n => lenL new 0 fun m => match Nat.beq m (Nat.mul n i.size) with
        | false => false
        | true => match Nat.beq i.size 0 with
          | true => false
          | false => appendTo H N i.size i.info.bytes s new n c) = true := by
    split at hd
    · cases hd
    · rename_i hne
      obtain ⟨u, hu, hund⟩ := under_spec hC.toOK hd
      split at hu
      · exact ⟨hne, _, hund, hu⟩
      · cases hu
  obtain ⟨hne, e, hund, hd⟩ := hnot
  obtain ⟨i, hd, hi, _, hsz, _⟩ := ty_spec hC.toOK hd
  obtain ⟨z, zv, hd, hzγ, hzz⟩ := zero_spec hC.toOK hd
  rw [hi] at hzz
  have hzz : i.info.zero = some zv := by simpa using hzz
  obtain ⟨zs, hd, hcells⟩ := cellsOf_spec hd
  rw [lenL_eq] at hd
  split at hd
  · cases hd
  · rename_i hb
    have hb := Nat.eq_of_beq_eq_true hb
    obtain ⟨new, n, hd, ht⟩ := tailK_spec (P := P) hd
    rw [lenL_eq] at hd
    split at hd
    · cases hd
    · rename_i hm
      have hm := Nat.eq_of_beq_eq_true hm
      split at hd
      · cases hd
      · rename_i h0
        rw [hsz] at hd hb hm h0 ht
        have h0 : i.info.size ≠ 0 := fun e => by rw [e] at h0; cases h0
        have hzs : zv.cells.size = i.info.size := by
          obtain ⟨xs, hxs, hc⟩ := hcells ⟨fun _ => none, fun _ => none, fun _ => .nilIface⟩ zv (hzγ _)
          have := γs_length hxs
          rw [hc, hb]; simp [this]
        obtain ⟨v, H', N', hk, hle, hr⟩ := appendTo_spec hi hzz hzs h0 hd
        refine ⟨v, H', N', hk, hle, fun η w s' x' hmem hf hs hx => ?_⟩
        obtain ⟨ys, hys, _, hln, _⟩ := ht η w x' hmem hx
        obtain ⟨η', w', y, he, hy, hrun⟩ := hr η w s' ys x' hmem hf hs hys (by rw [γs_length hys]; simpa using hm) (fun w2 hw2 => by
          obtain ⟨ys2, hys2, _, _, hr2⟩ := ht η w2 x' (Mem.still hmem hw2) hx
          rw [hys] at hys2; cases hys2
          exact hr2) hln
        exact ⟨η', w', y, he, hy, hrun t tx tr ux hund hux hne⟩
/-- the builtins -/
theorem builtinA_spec {b : Builtin} {ats : Array TypeId} {ty : TypeId} {cs : Array Bool} {args : List AV} (h : builtinA C H N b ats.toList args c = true) : Does P H N args (fun ys => builtin b ats ty cs ys.toArray) c := by
  unfold builtinA at h
  dsimp only at h
  split at h
  · rename_i t tx s x hat
    have hat : ats = #[t, tx] := by rw [← ats.toArray_toList, hat]
    subst hat
    obtain ⟨v, H', N', hk, hle, hr⟩ := appendA_spec hC (tr := ty) h
    refine ⟨_, _, _, hk, hle, fun η w ys hm hf hy => ?_⟩
    obtain ⟨s', x', hs, hx, rfl⟩ := γs2 hy
    obtain ⟨η', w', y, he, hy, hrun⟩ := hr η w s' x' hm hf hs hx
    exact ⟨η', w', he, y, hy, by simp [builtin, hrun]⟩
  · rename_i t r x hat
    have hat : ats = (t :: r).toArray := by rw [← ats.toArray_toList, hat]
    subst hat
    obtain ⟨v, hk, hr⟩ := lenA_spec hC (us := r) (tr := ty) h
    refine Does.val (m := fun ys => Builtin.len_ (t :: r).toArray ty ys.toArray) hk fun η w ys hm hy => ?_
    obtain ⟨x', hx, rfl⟩ := γs1 hy
    exact hr η w x' hm hx
  · rename_i t r m k hat
    have hat : ats = (t :: r).toArray := by rw [← ats.toArray_toList, hat]
    subst hat
    obtain ⟨H', hk, hr⟩ := deleteA_spec hC (N := N) (us := r) (tr := ty) h
    refine ⟨_, _, _, hk, Nat.le_refl _, fun η w ys hm hf hy => ?_⟩
    obtain ⟨m', x', hs, hx, rfl⟩ := γs2 hy
    obtain ⟨w', he, hrun⟩ := hr η w m' x' hm hs hx
    exact ⟨η, w', he, .tuple #[], by simp [AV.γ, γs_nil], by simp [builtin, hrun]⟩
  · rename_i t r x hat
    have hat : ats = (t :: r).toArray := by rw [← ats.toArray_toList, hat]
    subst hat
    obtain ⟨H', hk, hr⟩ := clearA_spec hC (N := N) (us := r) (tr := ty) h
    refine ⟨_, _, _, hk, Nat.le_refl _, fun η w ys hm hf hy => ?_⟩
    obtain ⟨x', hx, rfl⟩ := γs1 hy
    obtain ⟨w', he, hrun⟩ := hr η w x' hm hx
    exact ⟨η, w', he, .tuple #[], by simp [AV.γ, γs_nil], by simp [builtin, hrun]⟩
  · rename_i x r
    obtain ⟨v, hk, hr⟩ := maxL_spec (P := P) r x h
    refine Does.val (m := fun ys => Builtin.max_ ats ty ys.toArray) hk fun η w ys hm hy => ?_
    obtain ⟨x', s, hx, hs, rfl⟩ := γs_cons.1 hy
    obtain ⟨z, hz, hrun⟩ := hr η x' s w hx hs
    exact ⟨z, hz, by simpa [Builtin.max_] using hrun⟩
  · rename_i x r
    obtain ⟨v, hk, hr⟩ := minL_spec (P := P) r x h
    refine Does.val (m := fun ys => Builtin.min_ ats ty ys.toArray) hk fun η w ys hm hy => ?_
    obtain ⟨x', s, hx, hs, rfl⟩ := γs_cons.1 hy
    obtain ⟨z, hz, hrun⟩ := hr η x' s w hx hs
    exact ⟨z, hz, by simpa [Builtin.min_] using hrun⟩
  · refine Does.val (m := fun ys => Builtin.real_ ats ty ys.toArray) h fun η w ys hm hy => ?_
    obtain ⟨x', hx, rfl⟩ := γs1 hy
    simp only [AV.γ, Option.some.injEq] at hx
    subst hx
    exact ⟨_, rfl, rfl⟩
  · refine Does.val (m := fun ys => Builtin.imag_ ats ty ys.toArray) h fun η w ys hm hy => ?_
    obtain ⟨x', hx, rfl⟩ := γs1 hy
    simp only [AV.γ, Option.some.injEq] at hx
    subst hx
    exact ⟨_, rfl, rfl⟩
  · refine ⟨_, _, _, h, Nat.le_refl _, fun η w ys hm hf hy => ⟨η, w, .refl hm, ?_⟩⟩
    simp [builtin, Res]
  · cases h
end
end Go.Proofs.YthidihigidchgaaGreatDoor.Sy

namespace Go.Proofs.YthidihigidchgaaGreatDoor.Sy
open Go.Lib
section
variable {C : Cx} {P : Program} {T : Tr AV} {H : AH} {N : Nat} {ty : TypeId} {c : Kop} {dst : Option Tmp} {pos : String} {after : Array Edge} {guard : Option (Nat × Bool)} (hC : C.OK' P)
/-! Texts and rows of bytes. -/
theorem bytes_cells {s : List Nat} (hs : ∀ x ∈ s, x ≤ 255) : ((⟨(strB s).toArray⟩ : ByteArray).data.map fun b => Value.int .u8 (b.toNat : Int)) = (s.map fun x : Nat => Value.int .u8 (x : Int)).toArray := by
  simp only [List.map_toArray]
  congr 1
  induction s with
  | nil => rfl
  | cons x s ih =>
    have hx := hs x (by simp)
    have ih := ih fun y hy => hs y (by simp [hy])
    simp only [strB, List.map_cons] at ih ⊢
    rw [ih]
    congr 2
    have : (UInt8.ofNat x).toNat = x := by simp; omega
    rw [this]
theorem toBytes_spec {s : List Nat} (h : toBytes H N s c = true) : ∃ H', c (.val (.slicex N 0 s.length N 0)) H' (N + 1) = true ∧
    ∀ η w (e : TypeId), Mem η H w → Fresh η N (N + 1) → ∃ η', Evo η H N w η' H' (N + 1) (bytesWorld w e ⟨(strB s).toArray⟩) ∧ (AV.slicex N 0 s.length N 0).γ η' = some (.slice (some ⟨w.heap.size, 0, none⟩) s.length (grownCap w s.length 0 e)) := by
  unfold toBytes at h
  split at h
  · rename_i hb
    have hb := allBytes_spec s hb
    rw [bytesAV_eq, lenN_eq] at h
    obtain ⟨H', hk, hlook, hones⟩ := newCells_spec h
    have hk : c (.val (.slicex N 0 s.length N 0)) H' (N + 1) = true := by simpa using hk
    refine ⟨H', hk, fun η w e hm hf => ?_⟩
    have hge : s.length ≤ grownCap w s.length 0 e := grownCap_ge _ _ _ _
    have hsz : (⟨(strB s).toArray⟩ : ByteArray).size = s.length := by simp [ByteArray.size, strB]
    refine ⟨_, Evo.give hm hf (w.heap.size, 0) (some (grownCap w s.length 0 e)) _ (fun _ => False) (fun q o hq => by
        rw [hlook] at hq
        split at hq
        · rename_i e; cases hq; exact .inl ⟨e, rfl⟩
        · rename_i e; exact .inr ⟨e, id, hq⟩) (.inr (Nat.le_refl _)) (by rw [bytesWorld_size]; omega) (fun b hb _ => bytesWorld_at_old w e _ b hb) ?_ ?_, ?_⟩
    · refine holds_new (cs := bytesCells w e ⟨(strB s).toArray⟩) (el := e) (xs := s.map fun x : Nat => .int .u8 (x : Int)) (bytesWorld_at_new w e _) (γs_bytes _ s) (fun j y hy => ?_) hones (fun h => by cases h) (fun j hj => by simp; omega) (fun _ => ⟨_, Env.bind_κ .., ?_⟩)
      · unfold bytesCells
        rw [bytes_cells hb, Array.getElem?_append_left]
        · simpa using hy
        · have := (List.getElem?_eq_some_iff.1 hy).1
          simpa using this
      · unfold bytesCells
        simp only [Array.size_append, Array.size_map, Array.size_replicate, hsz]
        have : (⟨(strB s).toArray⟩ : ByteArray).data.size = s.length := by simp [strB]
        rw [this]
        omega
    · refine ⟨⟨rfl, rfl⟩, rfl, by rw [bytesWorld_size]; omega, fun a ha => ?_⟩
      rw [frozen_eq, frozen_eq, bytesWorld_at_old w e _ _ ha]
    · simp [AV.γ, Env.bind_ρ, Env.bind_κ, addr, hge]
  · cases h
theorem bytesOf_spec : ∀ (l : List AV) (k : List Nat → Bool), bytesOf l k = true → ∃ t, k t = true ∧ l = t.map fun x => .int .u8 (.ofNat x)
  | [], k, h => ⟨[], h, rfl⟩
  | v :: r, k, h => by
    cases v with
    | int i n =>
      cases i <;> cases n <;> first | (cases h; done) | skip
      rename_i n
      simp only [bytesOf] at h
      split at h
      · obtain ⟨t, ht, rfl⟩ := bytesOf_spec _ _ h
        exact ⟨n :: t, ht, rfl⟩
      · cases h
    | _ => cases h
theorem push_bytes : ∀ (t : List Nat) (acc : ByteArray), (t.map Int.ofNat).foldl (fun r n => r.push (UInt8.ofNat n.toNat)) acc = ⟨acc.data ++ (strB t).toArray⟩
  | [], acc => by simp [strB]
  | x :: t, acc => by
    simp only [List.map_cons, List.foldl_cons, push_bytes t]
    simp [ByteArray.push, strB]
theorem fromBytes_spec {x : AV} (h : fromBytes H N x c = true) : ∃ t, c (.val (.str t)) H N = true ∧
    ∀ η w x', Mem η H w → x.γ η = some x' → (∃ a l c, x' = .slice a l c) ∧ (Conv.bytesToString x').run P w = .ok (.string ⟨(strB t).toArray⟩) w := by
  have go : ∀ {i o n : Nat} {η : Env} {w : World} {vs : List AV} {ext : Nat} {pl : Bool} {p : Nat × Nat} {t : List Nat} {m cap : Nat}, Mem η H w → Tr.look H i = some (.cells vs ext pl) → η.ρ i = some p → (n = 0 ∨ o + n ≤ vs.length) →
      (vs.drop o).take n = t.map (fun x => .int .u8 (.ofNat x)) → m = n → (Conv.bytesToString (.slice (some (addr p o)) m cap)).run P w = .ok (.string ⟨(strB t).toArray⟩) w := by
    intro i o n η w vs ext pl p t m cap hm hob hp hn ht hmn
    subst hmn
    obtain ⟨ys, hys, hl, hr⟩ := read_cells (P := P) hm hob hp hn
    rw [ht, γs_bytes] at hys
    cases hys
    have : (t.map fun x : Nat => Value.int .u8 (x : Int)) = (t.map Int.ofNat).map (Value.int .u8) := by simp
    rw [this] at hr
    rw [run_bytesToString w _ _ _ _ hr, push_bytes]
    simp
  unfold fromBytes at h
  split at h
  · refine ⟨[], h, fun η w x' hm hx => ?_⟩
    have : x' = .slice none 0 0 := by simpa [AV.γ] using hx.symm
    subst this
    exact ⟨⟨_, _, _, rfl⟩, rfl⟩
  · rename_i i o n _
    obtain ⟨ob, hob, hk⟩ := Tr.get_spec h
    unfold AObj.onCells at hk
    split at hk
    · obtain ⟨hk, hn⟩ := rdK_spec _ _ _ _ hk
      obtain ⟨t, ht, he⟩ := bytesOf_spec _ _ hk
      refine ⟨t, ht, fun η w x' hm hx => ?_⟩
      obtain ⟨p, hp, _, rfl⟩ := γ_slice hx
      exact ⟨⟨_, _, _, rfl⟩, go hm hob hp hn he rfl⟩
    · cases hk
  · rename_i i o n _ _
    obtain ⟨ob, hob, hk⟩ := Tr.get_spec h
    unfold AObj.onCells at hk
    split at hk
    · obtain ⟨hk, hn⟩ := rdK_spec _ _ _ _ hk
      obtain ⟨t, ht, he⟩ := bytesOf_spec _ _ hk
      refine ⟨t, ht, fun η w x' hm hx => ?_⟩
      obtain ⟨p, _, hp, _, _, rfl⟩ := γ_slicex hx
      exact ⟨⟨_, _, _, rfl⟩, go hm hob hp hn he rfl⟩
    · cases hk
  · cases h
include hC
theorem isByte_spec {t : TypeId} {k : Bool} (h : isByte C t k = true) : k = true ∧ P.underlying t = some (.int .u8) := by
  obtain ⟨u, hu, hund⟩ := under_spec hC.toOK h
  split at hu
  · exact ⟨hu, hund⟩
  · cases hu
theorem convA_spec {s d : TypeId} {x : AV} (h : convA C H N s d x c = true) : ∃ v H' N', c (.val v) H' N' = true ∧ N ≤ N' ∧
    ∀ η w x', Mem η H w → Fresh η N N' → x.γ η = some x' → ∃ η' w' y, Evo η H N w η' H' N' w' ∧ v.γ η' = some y ∧ (convert s d x').run P w = .ok y w' := by
  obtain ⟨us, h1, hus⟩ := under_spec hC.toOK h
  obtain ⟨ud, h2, hud⟩ := under_spec hC.toOK h1
  split at h2
  · rename_i k _ n
    unfold retI at h2
    rw [fzInt_eq] at h2
    refine ⟨_, H, N, h2, Nat.le_refl _, fun η w x' hm _ hx => ⟨η, w, _, .refl hm, rfl, ?_⟩⟩
    rw [γ_int hx]
    simp [convert, run_under w hus, run_under w hud, Conv.intToInt, wrapA_eq]
  · rename_i s'
    refine ⟨_, H, N, h2, Nat.le_refl _, fun η w x' hm _ hx => ⟨η, w, x', .refl hm, hx, ?_⟩⟩
    have hx : x' = .string ⟨(strB s').toArray⟩ := str_γ hx
    subst hx
    simp [convert, run_under w hus, run_under w hud]
  · rename_i _ e s'
    obtain ⟨h3, he⟩ := isByte_spec hC h2
    obtain ⟨H', hk, hr⟩ := toBytes_spec h3
    refine ⟨_, H', N + 1, hk, Nat.le_succ _, fun η w x' hm hf hx => ?_⟩
    obtain ⟨η', hevo, hγ⟩ := hr η w e hm hf
    have hx : x' = .string ⟨(strB s').toArray⟩ := str_γ hx
    subst hx
    refine ⟨η', _, _, hevo, hγ, ?_⟩
    have hsz : (⟨(strB s').toArray⟩ : ByteArray).size = s'.length := by simp [ByteArray.size, strB]
    rw [run_convert_string_bytes w s d e _ hus hud he, hsz]
  · rename_i e _
    obtain ⟨h3, he⟩ := isByte_spec hC h2
    obtain ⟨t, hk, hr⟩ := fromBytes_spec (P := P) h3
    refine ⟨_, H, N, hk, Nat.le_refl _, fun η w x' hm _ hx => ⟨η, w, _, .refl hm, rfl, ?_⟩⟩
    obtain ⟨⟨a, l, cp, rfl⟩, hrun⟩ := hr η w x' hm hx
    rw [run_convert_bytes_string w s d e a l cp hus he hud]; exact hrun
  · cases h2
end
end Go.Proofs.YthidihigidchgaaGreatDoor.Sy

namespace Go.Proofs.YthidihigidchgaaGreatDoor.Sy
section
variable {C : Cx} {P : Program} {T : Tr AV} {H : AH} {N : Nat} {ty : TypeId} {c : Kop} {dst : Option Tmp} {pos : String} {after : Array Edge} {guard : Option (Nat × Bool)} (hC : C.OK' P)
/-! Iterators over maps. -/
include hC in
theorem rangeA_spec {t : TypeId} {x : AV} (h : rangeA C H N t x c = true) : ∃ H', c (.val (.ptr N 0)) H' (N + 1) = true ∧
    ∀ η w x', Mem η H w → Fresh η N (N + 1) → x.γ η = some x' → ∃ η' w', Evo η H N w η' H' (N + 1) w' ∧ (AV.ptr N 0).γ η' = some (.pointer (some ⟨w.heap.size, 0, none⟩)) ∧ (Instr.range t x').run P w = .ok (.pointer (some ⟨w.heap.size, 0, none⟩)) w' := by
  obtain ⟨d, hd, hund⟩ := under_spec hC.toOK h
  split at hd
  · obtain ⟨H', hk, hl⟩ := newObj_spec hd
    refine ⟨H', hk, fun η w x' hm hf hx => ?_⟩
    have : x' = .map none := by simp [AV.γ] at hx; exact hx.symm
    subst this
    exact ⟨_, _, Evo.alloc hm hf none _ (.mapIter none 0 #[] 0) hl rfl ⟨rfl, heap_alloc_new w _⟩, by simp [AV.γ, Env.bind_ρ, addr], run_range_nilMap w t _ _ hund⟩
  · rename_i id
    obtain ⟨es, cl, hob, hk⟩ := mapOf_spec hd
    obtain ⟨H', hk, hl⟩ := newObj_spec hk
    refine ⟨H', hk, fun η w x' hm hf hx => ?_⟩
    obtain ⟨l, p, hp, h0, rfl, _, hh⟩ := mem_map hm hob hx
    have hle := Env.bind_le (p := (w.heap.size, 0)) (c := none) (hf N (Nat.le_refl _) (Nat.lt_succ_self _))
    exact ⟨_, _, Evo.alloc hm hf none _ (.mapIter (some p.1) cl #[] cl) hl rfl ⟨rfl, p, hle.ρ _ _ hp, heap_alloc_new w _⟩, by simp [AV.γ, Env.bind_ρ, addr], run_range_map w t _ _ p.1 _ cl hund hh⟩
  · cases hd
theorem run_getIter {w : World} {b : Nat} {m : Option Nat} {s : Nat} {seen : Array Nat} {st : Nat} (h : w.heap[b]? = some (.mapIter m s seen st)) : (getObj b).run P w = .ok (.mapIter m s seen st) w := by simp [getObj, Sem.run, h]
theorem mem_iter {η : Env} {w : World} (hm : Mem η H w) {id m since st : Nat} {seen : List Nat} {es : List AEnt} {cl : Nat} (hi : Tr.look H id = some (.mapIter (some m) since seen st)) (hob : Tr.look H m = some (.map es cl)) :
    ∃ p q l, η.ρ id = some p ∧ p.2 = 0 ∧ η.ρ m = some q ∧ entsγ η es = some l ∧ w.heap[p.1]? = some (.mapIter (some q.1) since seen.toArray st) ∧ w.heap[q.1]? = some (.map l.toArray cl) := by
  obtain ⟨p, hp, h0, q, hq, hh⟩ := hm.objs id _ hi
  obtain ⟨q', hq', _, l, hl, hh'⟩ := hm.objs m _ hob
  rw [hq] at hq'; cases hq'
  exact ⟨p, q, l, hp, h0, hq, hl, hh, hh'⟩
theorem γ_iter {η : Env} {id : Nat} {p : Nat × Nat} {y : Value} (hp : η.ρ id = some p) (h0 : p.2 = 0) (h : (AV.ptr id 0).γ η = some y) : y = .pointer (some ⟨p.1, 0, none⟩) := by
  obtain ⟨q, hq, rfl⟩ := γ_ptr h
  rw [hp] at hq; cases hq
  simp [addr, h0]
theorem hasN_eq : ∀ (l : List Nat) (n : Nat), hasN l n = l.contains n
  | [], n => rfl
  | x :: r, n => by
    simp only [hasN]
    split
    · rename_i h
      have := Nat.eq_of_beq_eq_true h
      subst this
      simp
    · rename_i h
      have := Nat.ne_of_beq_eq_false h
      rw [hasN_eq r n]
      simp [List.contains_cons, Ne.symm this]
theorem leftE_eq (seen : List Nat) : ∀ (es : List AEnt) (k : List AEnt → Bool), leftE seen es k = k (es.filter fun e => !seen.contains e.born)
  | [], k => rfl
  | e :: r, k => by
    simp only [leftE, hasN_eq]
    split
    · rename_i h
      rw [leftE_eq seen r k, List.filter_cons_of_neg (by simp at h; simp [h])]
    · rename_i h
      rw [leftE_eq seen r, List.filter_cons_of_pos (by simp at h; simp [h])]
theorem allBefore_spec {n : Nat} : ∀ {es : List AEnt}, allBefore n es = true → ∀ e ∈ es, e.born < n
  | [], _, e, he => by cases he
  | x :: r, h, e, he => by
    simp only [allBefore] at h
    split at h
    · rename_i hb
      rcases List.mem_cons.1 he with rfl | he
      · exact Nat.le_of_ble_eq_true hb
      · exact allBefore_spec h e he
    · cases h
theorem pushN_eq : ∀ (l : List Nat) (n : Nat) (k : List Nat → Bool), pushN l n k = k (l ++ [n])
  | [], n, k => rfl
  | x :: r, n, k => by simp only [pushN]; rw [pushN_eq r]; rfl
theorem lastN_spec : ∀ {l : List Nat} {k : Nat → Bool}, lastN l k = true → ∃ b, k b = true ∧ l.getLast? = some b
  | [], k, h => by cases h
  | [b], k, h => ⟨b, h, rfl⟩
  | _ :: b :: r, k, h => by
    obtain ⟨d, hd, he⟩ := lastN_spec (l := b :: r) h
    exact ⟨d, hd, by rw [List.getLast?_cons_cons]; exact he⟩
theorem entsγ_left {η : Env} (seen : List Nat) : ∀ {es : List AEnt} {l : List MapEntry}, entsγ η es = some l → entsγ η (es.filter fun e => !seen.contains e.born) = some (l.filter fun e => !seen.contains e.born)
  | [], l, h => by simp [entsγ] at h; subst h; simp [entsγ]
  | a :: es, l, h => by
    obtain ⟨y, s, hy, hs, rfl⟩ := entsγ_cons.1 h
    have ih := entsγ_left seen hs
    obtain ⟨_, _, h3⟩ := entγ_parts hy
    by_cases hc : a.born ∈ seen
    · rw [List.filter_cons_of_neg (by simp [hc]), List.filter_cons_of_neg (by simp [h3, hc])]
      exact ih
    · rw [List.filter_cons_of_pos (by simp [hc]), List.filter_cons_of_pos (by simp [h3, hc])]
      exact entsγ_cons.2 ⟨y, _, hy, ih, rfl⟩
theorem leftOf_eq (seen : List Nat) (l : List MapEntry) : (leftOf l.toArray seen.toArray).toList = l.filter fun e => !seen.contains e.born := by
  unfold leftOf
  simp [List.contains_eq_mem]
theorem born_lt {η : Env} {es : List AEnt} {l : List MapEntry} {n : Nat} (hl : entsγ η es = some l) (h : ∀ e ∈ es, e.born < n) : ∀ x ∈ l.toArray.toList, x.born < n := by
  induction es generalizing l with
  | nil => simp [entsγ] at hl; subst hl; simp
  | cons a es ih =>
    obtain ⟨y, s, hy, hs, rfl⟩ := entsγ_cons.1 hl
    intro x hx
    rcases List.mem_cons.1 (by simpa using hx : x ∈ y :: s) with rfl | hx
    · rw [(entγ_parts hy).2.2]; exact h a (by simp)
    · exact ih hs (fun e he => h e (by simp [he])) x (by simpa using hx)
/-- what 'next' does to the iterator -/
theorem give_evo {η : Env} {w w1 : World} (hm : Mem η H w) {id m since last cl : Nat} {seen : List Nat} (hi : Tr.look H id = some (.mapIter (some m) since seen last)) {p q : Nat × Nat} (hp : η.ρ id = some p) (h0 : p.2 = 0) (hq : η.ρ m = some q)
    (hh : w.heap[p.1]? = some (.mapIter (some q.1) since seen.toArray last)) (hw : w1 = w ∨ w1 = w.drew) {e : AEnt} {b : Nat} (hb : b = e.born) {H' : AH} (hl : ∀ r, Tr.look H' r = if r = id then some (.mapIter (some m) since (seen ++ [e.born]) cl) else Tr.look H r) (N : Nat) :
    Evo η H N w η H' N (ChangeMaps.setBlock w1 p.1 (.mapIter (some q.1) since (seen.toArray.push b) cl)) := by
  subst hb
  have e1 : (seen ++ [e.born]).toArray = seen.toArray.push e.born := by simp
  rcases hw with rfl | rfl
  · exact Evo.write hm hi hp _ hl rfl ⟨h0, q, hq, by rw [e1]; exact setIB_same hh _⟩ (fun y e => by rw [hh] at e; cases e; rfl)
  · exact Evo.write hm hi hp _ hl rfl ⟨h0, q, hq, by rw [e1]; exact setIB_same hh _⟩ (fun y e => by rw [hh] at e; cases e; rfl)
theorem either_run {η : Env} {w : World} {id : Nat} {k : AV → AH → AV → AH → Bool} (hm : Mem η H w) (h : eitherK H id k = true) (ty : TypeId) : ∃ v1 H1 v2 H2, k v1 H1 v2 H2 = true ∧ ∃ p, η.ρ id = some p ∧ p.2 = 0 ∧
    ∃ w2 y, (Instr.next (.pointer (some ⟨p.1, 0, none⟩)) false ty).run P w = .ok y w2 ∧ ((v1.γ η = some y ∧ ∀ N, Evo η H N w η H1 N w2) ∨ (v2.γ η = some y ∧ ∀ N, Evo η H N w η H2 N w2)) := by
  obtain ⟨o, ho, hk⟩ := Tr.get_spec h
  split at hk
  · rename_i m since seen last
    obtain ⟨es, cl, hob, hk⟩ := mapOf_spec hk
    split at hk
    · rename_i hb
      obtain ⟨hb1, hb2⟩ := band hb
      rw [leftE_eq] at hk
      split at hk
      · rename_i x y hxy
        unfold giveE at hk
        rw [pushN_eq] at hk
        obtain ⟨H1, hk, hl1⟩ := Tr.set_spec hk
        simp only [pushN_eq] at hk
        obtain ⟨H2, hk, hl2⟩ := Tr.set_spec hk
        refine ⟨_, H1, _, H2, hk, ?_⟩
        obtain ⟨p, q, l, hp, h0, hq, hl, hh, hh'⟩ := mem_iter hm ho hob
        refine ⟨p, hp, h0, ?_⟩
        have hleft := entsγ_left seen hl
        rw [hxy] at hleft
        obtain ⟨x', s, hx, hs, e1⟩ := entsγ_cons.1 hleft
        obtain ⟨y', s2, hy, hs2, rfl⟩ := entsγ_cons.1 hs
        have : s2 = [] := by simpa [entsγ] using hs2.symm
        subst this
        rcases run_next_at (P := P) w ty p.1 q.1 since last seen.toArray l.toArray cl hh hh' (born_lt hl (allBefore_spec hb2)) (Nat.le_of_ble_eq_true hb1) with ⟨hz, _⟩ | ⟨e, he, w1, hw1, hrun⟩
        · rw [← Array.length_toList, leftOf_eq, e1] at hz
          simp at hz
        · rw [leftOf_eq, e1] at he
          refine ⟨_, _, hrun, ?_⟩
          rcases List.mem_cons.1 he with rfl | he
          · obtain ⟨a1, a2, a3⟩ := entγ_parts hx
            exact .inl ⟨by simp [AV.γ, γs, a1, a2], fun N => give_evo hm ho hp h0 hq hh hw1 a3 hl1 N⟩
          · rcases List.mem_cons.1 he with rfl | he
            · obtain ⟨a1, a2, a3⟩ := entγ_parts hy
              exact .inr ⟨by simp [AV.γ, γs, a1, a2], fun N => give_evo hm ho hp h0 hq hh hw1 a3 hl2 N⟩
            · cases he
      · cases hk
    · cases hk
  · cases hk
theorem nextA_spec {it : AV} {isStr : Bool} (h : nextA H N it isStr c = true) : ∃ x H', c x H' N = true ∧
    ∀ η w it' ty, Mem η H w → it.γ η = some it' → ∃ w', Evo η H N w η H' N w' ∧ Res P η x ((do pure (Next.value (← Instr.next it' isStr ty)) : Sem Next).run P w) w' := by
  unfold nextA at h
  split at h
  · rename_i id
    obtain ⟨o, ho, hk⟩ := Tr.get_spec h
    split at hk
    · refine ⟨_, H, hk, fun η w it' ty hm hit => ⟨w, .refl hm, .tuple #[.bool false], by simp [AV.γ, γs], ?_⟩⟩
      obtain ⟨p, hp, h0, hh⟩ := hm.objs id _ ho
      rw [γ_iter hp h0 hit]
      have : (Instr.next (.pointer (some ⟨p.1, 0, none⟩)) false ty).run P w = .ok (.tuple #[.bool false]) w := by
        simp only [Instr.next, Sem.run_bind, run_getIter hh, Result.andThen_ok, Sem.run_pure]
      simp [this]
    · rename_i m since seen last
      obtain ⟨es, cl, hob, hk⟩ := mapOf_spec hk
      split at hk
      · rename_i hb
        obtain ⟨hb1, hb2⟩ := band hb
        rw [leftE_eq] at hk
        -- what the machine does
        have base : ∀ η w it' ty, Mem η H w → (AV.ptr id 0).γ η = some it' → ∃ (p q : Nat × Nat) (l : List MapEntry), η.ρ id = some p ∧ p.2 = 0 ∧ η.ρ m = some q ∧ it' = .pointer (some ⟨p.1, 0, none⟩) ∧ entsγ η (es.filter fun e => !seen.contains e.born) = some (l.filter fun e => !seen.contains e.born) ∧
            w.heap[p.1]? = some (.mapIter (some q.1) since seen.toArray last) ∧ (((l.filter fun e => !seen.contains e.born) = [] ∧ (Instr.next it' false ty).run P w = .ok (.tuple #[.bool false]) w) ∨
              ∃ e ∈ (l.filter fun e => !seen.contains e.born), ∃ w1 : World, (w1 = w ∨ w1 = w.drew) ∧ (Instr.next it' false ty).run P w = .ok (.tuple #[.bool true, e.key, e.val]) (ChangeMaps.setBlock w1 p.1 (.mapIter (some q.1) since (seen.toArray.push e.born) cl))) := by
          intro η w it' ty hm hit
          obtain ⟨p, q, l, hp, h0, hq, hl, hh, hh'⟩ := mem_iter hm ho hob
          rw [γ_iter hp h0 hit]
          refine ⟨p, q, l, hp, h0, hq, rfl, entsγ_left seen hl, hh, ?_⟩
          rcases run_next_at (P := P) w ty p.1 q.1 since last seen.toArray l.toArray cl hh hh' (born_lt hl (allBefore_spec hb2)) (Nat.le_of_ble_eq_true hb1) with ⟨hz, hrun⟩ | ⟨e, he, w1, hw1, hrun⟩
          · rw [← Array.length_toList, leftOf_eq] at hz
            exact .inl ⟨List.length_eq_zero_iff.1 hz, hrun⟩
          · rw [leftOf_eq] at he
            exact .inr ⟨e, he, w1, hw1, hrun⟩
        split at hk
        · rename_i hlf
          refine ⟨_, H, hk, fun η w it' ty hm hit => ⟨w, .refl hm, .tuple #[.bool false], by simp [AV.γ, γs], ?_⟩⟩
          obtain ⟨p, q, l, hp, h0, hq, _, hl, hh, hcase⟩ := base η w it' ty hm hit
          rw [hlf] at hl
          have hnil : (l.filter fun e => !seen.contains e.born) = [] := by simpa [entsγ] using hl.symm
          rcases hcase with ⟨_, hrun⟩ | ⟨e, he, _⟩
          · simp [hrun]
          · rw [hnil] at he; cases he
        · rename_i e0 hlf
          unfold giveE at hk
          rw [pushN_eq] at hk
          obtain ⟨H', hk, hl'⟩ := Tr.set_spec hk
          refine ⟨_, H', hk, fun η w it' ty hm hit => ?_⟩
          obtain ⟨p, q, l, hp, h0, hq, _, hl, hh, hcase⟩ := base η w it' ty hm hit
          rw [hlf] at hl
          obtain ⟨x, s, hx, hs, e1⟩ := entsγ_cons.1 hl
          have : s = [] := by simpa [entsγ] using hs.symm
          subst this
          obtain ⟨a1, a2, a3⟩ := entγ_parts hx
          rcases hcase with ⟨hz, _⟩ | ⟨e, he, w1, hw1, hrun⟩
          · rw [e1] at hz; cases hz
          · rw [e1] at he
            have he : e = x := by simpa using he
            subst he
            exact ⟨_, give_evo hm ho hp h0 hq hh hw1 a3 hl' N, .tuple #[.bool true, e.key, e.val], by simp [AV.γ, γs, a1, a2], by simp [hrun]⟩
        · rename_i x0 y0 hlf
          refine ⟨_, H, hk, fun η w it' ty hm hit => ⟨w, .refl hm, ?_⟩⟩
          obtain ⟨p, q, l, hp, h0, hq, hit', hl, hh, hcase⟩ := base η w it' ty hm hit
          rw [hlf] at hl
          obtain ⟨x, s, hx, hs, e1⟩ := entsγ_cons.1 hl
          rcases hcase with ⟨hz, _⟩ | ⟨e, he, w1, hw1, hrun⟩
          · rw [e1] at hz; cases hz
          · refine ⟨ChangeMaps.setBlock w1 p.1 (.mapIter (some q.1) since (seen.toArray.push e.born) cl), .tuple #[.bool true, e.key, e.val], by simp [hrun], fun H0 k hm0 hk0 => ?_⟩
            obtain ⟨v1, H1, v2, H2, hkk, p', hp', h0', w2, y, hrun', hor⟩ := either_run (P := P) hm0 hk0 ty
            rw [hp] at hp'; cases hp'
            rw [hit'] at hrun
            rw [hrun] at hrun'
            cases hrun'
            exact ⟨v1, H1, v2, H2, hkk, hor⟩
        · cases hk
      · cases hk
    · cases hk
  · cases h
theorem entryA_spec {it : AV} {k : Kv} (h : entryA H it k = true) : ∃ v, k v = true ∧
    ∀ η w it', Mem η H w → it.γ η = some it' → ∃ y, v.γ η = some y ∧ (Instr.entry it').run P w = .ok y w := by
  unfold entryA at h
  split at h
  · rename_i id
    obtain ⟨o, ho, hk⟩ := Tr.get_spec h
    split at hk
    · rename_i m since seen st
      obtain ⟨b, hk, hlast⟩ := lastN_spec hk
      obtain ⟨es, cl, hob, hk⟩ := mapOf_spec hk
      split at hk
      · rename_i hcl
        have hcl := Nat.eq_of_beq_eq_true hcl
        obtain ⟨j, e, hk, hej, hb, hlt⟩ := bornAt_spec _ _ _ _ hk
        refine ⟨_, hk, fun η w it' hm hit => ?_⟩
        obtain ⟨p, q, l, hp, h0, hq, hl, hh, hh'⟩ := mem_iter hm ho hob
        rw [γ_iter hp h0 hit]
        obtain ⟨ye, hye, hyeγ⟩ := entsγ_get hl hej
        obtain ⟨hek, hev, heb⟩ := entγ_parts hyeγ
        refine ⟨.tuple #[ye.key, ye.val], by simp [AV.γ, γs, hek, hev], ?_⟩
        have hf : l.toArray.find? (fun x => x.born == b) = some ye := by
          rw [List.find?_toArray, List.find?_eq_some_iff_getElem]
          refine ⟨by simp [heb, hb], j, (List.getElem?_eq_some_iff.1 hye).1, (List.getElem?_eq_some_iff.1 hye).2, fun i hi => ?_⟩
          have hil : i < l.length := Nat.lt_trans hi (List.getElem?_eq_some_iff.1 hye).1
          have hie : i < es.length := by rw [← entsγ_length hl]; exact hil
          have h1 : es[i]? = some es[i] := List.getElem?_eq_getElem hie
          obtain ⟨yq, hyq, hyqγ⟩ := entsγ_get hl h1
          obtain ⟨_, _, hqb⟩ := entγ_parts hyqγ
          have := hlt i _ hi h1
          have e2 : l[i] = yq := by
            rw [List.getElem?_eq_getElem hil] at hyq
            exact Option.some.inj hyq
          rw [e2, hqb]
          simpa using this
        have hback : seen.toArray.back? = some b := by rw [List.back?_toArray]; exact hlast
        simp [Instr.entry, run_getIter hh, run_getMap hh', hcl, hf, hback]
      · cases hk
    · cases hk
  · cases h
include hC in
theorem opRange_spec {t : TypeId} {x : Operand} (h : opRange t x C T H N ty c = true) : Goes P T H N (fun tmps => execOp (evt tmps) ⟨dst, .range t x, ty, pos, after, guard⟩) c := by
  obtain ⟨a, ha, hx⟩ := ev_spec h
  obtain ⟨H', hk, hr⟩ := rangeA_spec (P := P) hC ha
  exact Goes.valE (s := fun tmps => Instr.range t (evt tmps x)) hk ⟨Nat.le_succ _, fun η w nt tmps hm hf hT => by
    obtain ⟨η', w', he, hy, hr⟩ := hr η w _ hm hf (hx η nt tmps hT)
    exact ⟨η', w', _, he, hy, hr⟩⟩
theorem opNext_spec {it : Operand} {b : Bool} (h : opNext it b C T H N ty c = true) : Goes P T H N (fun tmps => execOp (evt tmps) ⟨dst, .next it b, ty, pos, after, guard⟩) c := by
  obtain ⟨a, ha, hx⟩ := ev_spec h
  obtain ⟨x, H', hk, hr⟩ := nextA_spec (P := P) ha
  refine ⟨x, H', N, hk, Nat.le_refl _, fun η w nt tmps hm hf hT => ?_⟩
  obtain ⟨w', he, hres⟩ := hr η w _ ty hm (hx η nt tmps hT)
  exact ⟨η, w', he, hres⟩
theorem opEntry_spec {it : Operand} (h : opEntry it C T H N ty c = true) : Goes P T H N (fun tmps => execOp (evt tmps) ⟨dst, .entry it, ty, pos, after, guard⟩) c := by
  obtain ⟨a, ha, hx⟩ := ev_spec h
  obtain ⟨v, hk, hr⟩ := entryA_spec (P := P) ha
  exact Goes.val (s := fun tmps => Instr.entry (evt tmps it)) hk fun η w nt tmps hm hT => hr η w _ hm (hx η nt tmps hT)
/-! Interfaces. -/
include hC in
theorem assertA_spec {x : AV} {t : TypeId} {ok : Bool} {k : Kv} (h : assertA C x t ok k = true) : ∃ v, k v = true ∧
    ∀ η w x' xt, x.γ η = some x' → ∃ y, v.γ η = some y ∧ (Instr.typeAssert x' xt t ok).run P w = .ok y w := by
  obtain ⟨d, hd, hund⟩ := under_spec hC.toOK h
  have fails : failsA C t ok k = true → (∀ η (w : World) x' xt, x.γ η = some x' → ok = true → ∀ z, (zeroValue t).run P w = .ok z w → (Instr.typeAssert x' xt t ok).run P w = .ok (.tuple #[z, .bool false]) w) → ∃ v, k v = true ∧
      ∀ η w x' xt, x.γ η = some x' → ∃ y, v.γ η = some y ∧ (Instr.typeAssert x' xt t ok).run P w = .ok y w := by
    intro hf hr
    unfold failsA at hf
    split at hf
    · obtain ⟨z, zv, hz, hzγ, hzero⟩ := zero_spec hC.toOK hf
      exact ⟨_, hz, fun η w x' xt hx => ⟨.tuple #[zv, .bool false], by simp [AV.γ, γs, hzγ η], hr η w x' xt hx rfl _ (run_zeroValue w hzero)⟩⟩
    · cases hf
  split at hd
  · cases hd
  · rename_i hni
    refine fails hd fun η w x' xt hx hok z hz => ?_
    have : x' = .nilIface := by simpa [AV.γ] using hx.symm
    subst this; subst hok
    cases d <;> first | exact absurd rfl (hni _) | simp [Instr.typeAssert, run_under w hund, hz]
  · rename_i t' v hni
    split at hd
    · rename_i he
      have he := Nat.eq_of_beq_eq_true he
      subst he
      unfold holdsA at hd
      split at hd
      · refine ⟨_, hd, fun η w x' xt hx => ?_⟩
        simp only [AV.γ, Option.map_eq_some_iff] at hx
        obtain ⟨y, hy, rfl⟩ := hx
        refine ⟨.tuple #[y, .bool true], by simp [AV.γ, γs, hy], ?_⟩
        cases d <;> first | exact absurd rfl (hni _) | simp [Instr.typeAssert, run_under w hund]
      · refine ⟨_, hd, fun η w x' xt hx => ?_⟩
        simp only [AV.γ, Option.map_eq_some_iff] at hx
        obtain ⟨y, hy, rfl⟩ := hx
        refine ⟨y, hy, ?_⟩
        cases d <;> first | exact absurd rfl (hni _) | simp [Instr.typeAssert, run_under w hund]
    · rename_i he
      have he := Nat.ne_of_beq_eq_false he
      refine fails hd fun η w x' xt hx hok z hz => ?_
      simp only [AV.γ, Option.map_eq_some_iff] at hx
      obtain ⟨y, hy, rfl⟩ := hx
      subst hok
      cases d <;> first | exact absurd rfl (hni _) | simp [Instr.typeAssert, run_under w hund, hz, he]
  · cases hd
include hC in
theorem opAssert_spec {x : Operand} {xt t : TypeId} {ok : Bool} (h : opAssert x xt t ok C T H N ty c = true) : Goes P T H N (fun tmps => execOp (evt tmps) ⟨dst, .typeAssert x xt t ok, ty, pos, after, guard⟩) c := by
  obtain ⟨a, ha, hx⟩ := ev_spec h
  obtain ⟨v, hk, hr⟩ := assertA_spec (P := P) hC ha
  exact Goes.val (s := fun tmps => Instr.typeAssert (evt tmps x) xt t ok) hk fun η w nt tmps hm hT => hr η w _ xt (hx η nt tmps hT)
theorem opPanic_spec {x : Operand} (h : opPanic x C T H N ty c = true) : Goes P T H N (fun tmps => execOp (evt tmps) ⟨dst, .panic x, ty, pos, after, guard⟩) c := by
  obtain ⟨v, hv, hx⟩ := ev_spec (show ev x T (panicA H N c) = true from h)
  unfold panicA at hv
  split at hv
  · rename_i t u
    refine ⟨_, H, N, hv, Nat.le_refl _, fun η w nt tmps hm _ hT => ⟨η, w, .refl hm, evt tmps x, hx η nt tmps hT, ?_⟩⟩
    have hy := hx η nt tmps hT
    simp only [AV.γ, Option.map_eq_some_iff] at hy
    obtain ⟨z, _, e⟩ := hy
    simp [execOp, Instr.panic, ← e, goPanic, Sem.run]
  · cases hv
end
end Go.Proofs.YthidihigidchgaaGreatDoor.Sy

namespace Go.Proofs.YthidihigidchgaaGreatDoor.Sy

/-! Functions without a body. -/
def extSem : Ext → Array Value → Sem Value
  | .idxByte => Extern.BytealgIndexByte.indexByte
  | .f64bits => Extern.MathFloatBits.float64bits
structure Cx.OKc (C : Cx) (P : Program) : Prop extends C.OK' P where
  fn : ∀ f fn, Tr.look C.fns f = some fn → P.funcs[f]? = some fn
  enter : ∀ (f : Nat) (fn : Func) (c : Code), P.funcs[f]? = some fn → fn.body = some c → (fn.name == "runtime.NumGoroutine") = false
  ext : ∀ f e, Tr.look C.exts f = some e → ∀ args w, (callFunc f args).run P w = ((extSem e args).run P w).andThen fun v w' => .ok (.value v) w'

def idxOf (c : Nat) : List Nat → Nat → Option Nat
  | [], _ => none
  | x :: r, i => if x = c then some i else idxOf c r (i + 1)
theorem idxN_eq : ∀ (l : List Nat) (c i : Nat) (k : Kv), idxN l c i k = k (match idxOf c l i with | some j => .int .i64 (.ofNat j) | none => .int .i64 (.negSucc 0))
  | [], c, i, k => rfl
  | x :: r, c, i, k => by
    simp only [idxN, idxOf]
    cases h : Nat.beq x c with
    | true =>
      have := Nat.eq_of_beq_eq_true h
      simp [this]
    | false =>
      have := Nat.ne_of_beq_eq_false h
      simp only [this, if_false]
      rw [fzNat_eq, idxN_eq]
theorem idxOf_some : ∀ {l : List Nat} {c i j : Nat}, idxOf c l i = some j → i ≤ j ∧ l[j - i]? = some c ∧ ∀ m, i ≤ m → m < j → l[m - i]? ≠ some c
  | [], c, i, j, h => by simp [idxOf] at h
  | x :: r, c, i, j, h => by
    simp only [idxOf] at h
    split at h
    · rename_i e
      cases h
      exact ⟨Nat.le_refl _, by simp [e], fun m h1 h2 => by omega⟩
    · rename_i e
      obtain ⟨h1, h2, h3⟩ := idxOf_some h
      refine ⟨by omega, ?_, fun m hm hmj => ?_⟩
      · obtain ⟨z, hz⟩ : ∃ z, j - i = z + 1 := ⟨j - i - 1, by omega⟩
        have : j - (i + 1) = z := by omega
        rw [hz]; rw [this] at h2; simpa using h2
      · by_cases e2 : m = i
        · subst e2; simpa using e
        · obtain ⟨z, hz⟩ : ∃ z, m - i = z + 1 := ⟨m - i - 1, by omega⟩
          have := h3 m (by omega) hmj
          have e3 : m - (i + 1) = z := by omega
          rw [e3] at this
          rw [hz]; simpa using this
theorem idxOf_none : ∀ {l : List Nat} {c i : Nat}, idxOf c l i = none → ∀ x ∈ l, x ≠ c
  | [], c, i, _ => by simp
  | x :: r, c, i, h => by
    simp only [idxOf] at h
    split at h
    · cases h
    · rename_i e
      intro y hy
      rcases List.mem_cons.1 hy with rfl | hy
      · exact e
      · exact idxOf_none h y hy
theorem getB {l : List Nat} {j x : Nat} (h : l[j]? = some x) : (⟨(strB l).toArray⟩ : ByteArray)[j]! = UInt8.ofNat x := by
  have hl : j < l.length := by
    rcases Nat.lt_or_ge j l.length with h' | h'
    · exact h'
    · rw [List.getElem?_eq_none h'] at h; cases h
  have hs : j < (⟨(strB l).toArray⟩ : ByteArray).size := by rw [size_strB]; exact hl
  rw [getElem!_pos (⟨(strB l).toArray⟩ : ByteArray) j hs]
  show (strB l).toArray[j]'hs = _
  rw [List.getElem?_eq_getElem hl] at h
  simp only [Option.some.injEq] at h
  simp [strB, h]
theorem firstIdx_strB {l : List Nat} {c : Nat} (hl : ∀ x ∈ l, x ≤ 255) (hc : c ≤ 255) : firstIdx ⟨(strB l).toArray⟩ (UInt8.ofNat c) = match idxOf c l 0 with | some j => (j : Int) | none => -1 := by
  have hinj : ∀ x, x ≤ 255 → (UInt8.ofNat x == UInt8.ofNat c) = decide (x = c) := fun x hx => by
    by_cases e : x = c
    · simp [e]
    · have : UInt8.ofNat x ≠ UInt8.ofNat c := fun he => e (by rw [← ofNat_toNat hx, ← ofNat_toNat hc, he])
      simp [this, e]
  unfold firstIdx
  rw [size_strB]
  cases h : idxOf c l 0 with
  | some j =>
    obtain ⟨_, h2, h3⟩ := idxOf_some h
    simp only [Nat.sub_zero] at h2 h3
    have hj : j < l.length := by
      rcases Nat.lt_or_ge j l.length with h' | h'
      · exact h'
      · rw [List.getElem?_eq_none h'] at h2; cases h2
    have : (List.range l.length).find? (fun i => (⟨(strB l).toArray⟩ : ByteArray)[i]! == UInt8.ofNat c) = some j := by
      rw [List.find?_range_eq_some]
      refine ⟨by rw [getB h2]; simp, by simpa using hj, fun m hm => ?_⟩
      obtain ⟨x, hx⟩ : ∃ x, l[m]? = some x := ⟨l[m]'(by omega), by rw [List.getElem?_eq_getElem]⟩
      rw [getB hx, hinj x (hl x (List.mem_of_getElem? hx))]
      have := h3 m (Nat.zero_le _) hm
      rw [hx] at this
      simpa using this
    rw [this]
  | none =>
    have hn := idxOf_none h
    have : (List.range l.length).find? (fun i => (⟨(strB l).toArray⟩ : ByteArray)[i]! == UInt8.ofNat c) = none := by
      rw [List.find?_eq_none]
      intro m hm
      have hm : m < l.length := by simpa using hm
      have hx : l[m]? = some l[m] := List.getElem?_eq_getElem hm
      rw [getB hx, hinj _ (hl _ (List.getElem_mem hm))]
      simpa using hn _ (List.getElem_mem hm)
    rw [this]
section
variable {C : Cx} {P : Program} {T : Tr AV} {H : AH} {N : Nat} {ty : TypeId} {c : Kop} {dst : Option Tmp} {pos : String} {after : Array Edge} {guard : Option (Nat × Bool)}
theorem extA_spec {e : Ext} {args : List AV} {k : Kv} (h : extA e args k = true) : ∃ v, k v = true ∧ ∀ η ys w, γs η args = some ys → ∃ y, v.γ η = some y ∧ (extSem e ys.toArray).run P w = .ok y w := by
  unfold extA at h
  split at h
  · rename_i s c
    split at h
    · rename_i hs
      split at h
      · rename_i hc
        have hc : c ≤ 255 := Nat.le_of_ble_eq_true hc
        rw [idxN_eq] at h
        refine ⟨_, h, fun η ys w hy => ?_⟩
        obtain ⟨x, y, hx, hyv, rfl⟩ := γs2 hy
        have hx : x = .string ⟨(strB s).toArray⟩ := by simpa [AV.γ, strB] using hx.symm
        rw [hx, γ_int hyv]
        have hrun := run_indexByte_string (P := P) ⟨(strB s).toArray⟩ (c : Int) w
        have hcc : ((c : Int).toNat).toUInt8 = UInt8.ofNat c := rfl
        rw [hcc, firstIdx_strB (allBytes_spec s hs) hc] at hrun
        cases hi : idxOf c s 0 with
        | some j => rw [hi] at hrun; exact ⟨_, rfl, hrun⟩
        | none => rw [hi] at hrun; exact ⟨_, rfl, hrun⟩
      · cases h
    · cases h
  · refine ⟨_, h, fun η ys w hy => ?_⟩
    obtain ⟨x, hx, rfl⟩ := γs1 hy
    simp only [AV.γ, Option.some.injEq] at hx
    subst hx
    exact ⟨_, rfl, rfl⟩
  · cases h
theorem appL_eq : ∀ (xs ys : List AV) (k : List AV → Bool), appL xs ys k = k (xs ++ ys)
  | [], ys, k => rfl
  | x :: xs, ys, k => by simp only [appL]; rw [appL_eq xs]; rfl
variable (hC : C.OKc P)
include hC
theorem opConv_spec {s d : TypeId} {x : Operand} (h : opConv s d x C T H N ty c = true) : Goes P T H N (fun tmps => execOp (evt tmps) ⟨dst, .convert s d x, ty, pos, after, guard⟩) c := by
  obtain ⟨u, hu, hx⟩ := ev_spec (show ev x T (fun a => convA C H N s d a c) = true from h)
  obtain ⟨v, H', N', hk, hle, hr⟩ := convA_spec (P := P) hC.toOK' hu
  exact Goes.valE (s := fun tmps => convert s d (evt tmps x)) hk ⟨hle, fun η w nt tmps hm hf hT => by
    obtain ⟨η', w', y, he, hy, hr⟩ := hr η w _ hm hf (hx η nt tmps hT)
    exact ⟨η', w', y, he, hy, hr⟩⟩
theorem callFuncA_spec {f : FuncId} {args : List AV} (h : callFuncA C H N f args c = true) : Does P H N args (fun ys => callFunc f ys.toArray) c := by
  obtain ⟨fn, hfn, hk⟩ := Tr.get_spec h
  have hf := hC.fn f fn hfn
  split at hk
  · rename_i cd hb
    refine ⟨_, _, _, hk, Nat.le_refl _, fun η w ys hm _ hy => ⟨η, w, .refl hm, ys, hy, ?_⟩⟩
    have hname := hC.enter f fn cd hf hb
    have h1 : fn.name ≠ "runtime.NumGoroutine" := by simpa using hname
    simp [callFunc, hf, h1, hb]
  · obtain ⟨e, he, hk⟩ := Tr.get_spec hk
    obtain ⟨v, hv, hr⟩ := extA_spec (P := P) hk
    refine ⟨_, _, _, hv, Nat.le_refl _, fun η w ys hm _ hy => ?_⟩
    obtain ⟨y, hyy, hrun⟩ := hr η ys w hy
    refine ⟨η, w, .refl hm, y, hyy, ?_⟩
    rw [hC.ext f e he, hrun]; rfl
/-- what a call that is put together comes to -/
def Invokes (P : Program) (H : AH) (N : Nat) (d : ADef) (c : Kop) : Prop :=
  ∃ x H' N', c x H' N' = true ∧ N ≤ N' ∧ ∀ η w d', Mem η H w → Fresh η N N' → defγ η d = some d' → ∃ η' w', Evo η H N w η' H' N' w' ∧ Res P η' x ((invoke d'.target d'.args).run P w) w'
theorem invokeA_spec {t : ATgt} {args : List AV} (h : invokeA C H N t args c = true) : Invokes P H N ⟨t, args⟩ c := by
  unfold invokeA at h
  split at h
  · rename_i b ats tt cs
    obtain ⟨x, H', N', hk, hle, hr⟩ := builtinA_spec hC.toOK' (ty := tt) (cs := cs) h
    refine ⟨x, H', N', hk, hle, fun η w d' hm hf hd => ?_⟩
    simp only [defγ] at hd
    split at hd
    · rename_i a ha
      simp only [Option.some.injEq] at hd; subst hd
      exact hr η w a hm hf ha
    · cases hd
  · rename_i l
    refine ⟨_, _, _, h, Nat.le_refl _, fun η w d' hm hf hd => ⟨η, w, .refl hm, ?_⟩⟩
    simp only [defγ] at hd
    split at hd
    · rename_i p a hp ha
      simp only [Option.some.injEq] at hd; subst hd
      exact ⟨p, a, hp, ha, rfl⟩
    · cases hd
  · cases h
  · rename_i fn cap
    split at h
    · rename_i f
      rw [appL_eq] at h
      obtain ⟨x, H', N', hk, hle, hr⟩ := callFuncA_spec hC h
      refine ⟨x, H', N', hk, hle, fun η w d' hm hf hd => ?_⟩
      simp only [defγ] at hd
      split at hd
      · rename_i cc a hcc ha
        simp only [Option.some.injEq] at hd; subst hd
        obtain ⟨η', w', he, hres⟩ := hr η w (a ++ cc) hm hf (γs_append ha hcc)
        refine ⟨η', w', he, ?_⟩
        have e : (a ++ cc).toArray = a.toArray ++ cc.toArray := by simp
        have hres : Res P η' x ((callFunc f (a ++ cc).toArray).run P w) w' := hres
        rw [e] at hres
        exact hres
      · cases hd
    · cases h
omit hC in
theorem resolveA_spec {cl : Call} {ty : TypeId} {k : ADef → Bool} (h : resolveA T cl ty k = true) : ∃ d, k d = true ∧ ∀ η w nt tmps, TRel η T nt tmps → ∃ d', defγ η d = some d' ∧ (resolve (evt tmps) cl ty).run P w = .ok d' w := by
  obtain ⟨vs, hvs, hl⟩ := evL_spec _ (show evL cl.args.toList T _ = true from h)
  have hargs : ∀ tmps, (cl.args.toList.map (evt tmps)).toArray = cl.args.map (evt tmps) := fun tmps => mapA _ _
  split at hvs
  · rename_i b hb
    refine ⟨_, hvs, fun η w nt tmps hT => ?_⟩
    have hg := hl η nt tmps hT
    refine ⟨{ target := .builtin b cl.argTypes ty (cl.args.map isC), args := (cl.args.toList.map (evt tmps)).toArray }, by simp only [defγ, hg], ?_⟩
    rw [hargs]
    have : (cl.args.map fun | .const _ => true | _ => false) = cl.args.map isC := by
      congr 1
    simp only [resolve, hb, Sem.run_pure]
    congr 3
  · cases hvs
  · rename_i f hb
    obtain ⟨fv, hfv, hf⟩ := ev_spec hvs
    split at hfv
    · rename_i fn first cap
      rw [appL_eq] at hfv
      refine ⟨_, hfv, fun η w nt tmps hT => ?_⟩
      obtain ⟨hne, x, z, hx, hz, e⟩ := γ_func (hf η nt tmps hT)
      have hg := γs_append hx (hl η nt tmps hT)
      have hd : defγ η ⟨.fn fn cap, first ++ vs⟩ = some { target := .fn fn z.toArray, args := (x ++ cl.args.toList.map (evt tmps)).toArray } := by
        cases fn with
        | yield l => exact absurd rfl (hne l)
        | _ => simp only [defγ, hz, hg]
      refine ⟨_, hd, ?_⟩
      simp only [resolve, hb, e, Deferred.ofValue, Sem.run_pure]
      congr 2
      rw [← hargs]; simp
    · rename_i l
      refine ⟨_, hfv, fun η w nt tmps hT => ?_⟩
      obtain ⟨p, hp, e⟩ := γ_yield (hf η nt tmps hT)
      have hg := hl η nt tmps hT
      refine ⟨{ target := .fn (.yield p.1) #[], args := (cl.args.toList.map (evt tmps)).toArray }, by simp only [defγ, hg, hp], ?_⟩
      simp only [resolve, hb, e, Deferred.ofValue, Sem.run_pure]
      congr 2
      rw [← hargs]; simp
    · cases hfv
theorem opCall_spec {cl : Call} (h : opCall cl C T H N ty c = true) : Goes P T H N (fun tmps => execOp (evt tmps) ⟨dst, .call cl, ty, pos, after, guard⟩) c := by
  obtain ⟨d, hd, hr⟩ := resolveA_spec (P := P) (show resolveA T cl ty (fun d => invokeA C H N d.target d.args c) = true from h)
  obtain ⟨x, H', N', hk, hle, hi⟩ := invokeA_spec hC hd
  refine ⟨x, H', N', hk, hle, fun η w nt tmps hm hf hT => ?_⟩
  obtain ⟨d', hd', hrun⟩ := hr η w nt tmps hT
  obtain ⟨η', w', he, hres⟩ := hi η w d' hm hf hd'
  exact ⟨η', w', he, by simpa [execOp, hrun] using hres⟩
omit hC in
theorem opDefer_spec {cl : Call} (h : opDefer cl C T H N ty c = true) : Goes P T H N (fun tmps => execOp (evt tmps) ⟨dst, .defer cl, ty, pos, after, guard⟩) c := by
  obtain ⟨d, hd, hr⟩ := resolveA_spec (P := P) (show resolveA T cl ty (fun d => c (.dfr d) H N) = true from h)
  refine ⟨_, _, _, hd, Nat.le_refl _, fun η w nt tmps hm hf hT => ?_⟩
  obtain ⟨d', hd', hrun⟩ := hr η w nt tmps hT
  exact ⟨η, w, .refl hm, d', hd', by simp [execOp, hrun]⟩
/-- every operation -/
theorem opA_spec {o : Oper} (h : opA o.op C T H N o.type c = true) : Goes P T H N (fun tmps => execOp (evt tmps) o) c := by
  obtain ⟨dst, op, ty, pos, after, guard⟩ := o
  cases op <;> first
    | (cases h; done)
    | exact opMove_spec (C := C) (ty := ty) h
    | exact opAssign_spec (C := C) (ty := ty) h
    | exact opPick_spec (C := C) (ty := ty) h
    | exact opBox_spec (C := C) (ty := ty) h
    | exact opAlloc_spec hC.toOK' h
    | exact opBuild_spec hC.toOK' h
    | exact opBuildSlice_spec hC.toOK' h
    | exact opLoad_spec hC.toOK' h
    | exact opStore_spec hC.toOK' h
    | exact opNilCheck_spec (C := C) (ty := ty) h
    | exact opBin_spec hC.toOK' h
    | exact opUn_spec (C := C) (ty := ty) h
    | exact opConv_spec hC h
    | exact opIface_spec hC.toOK' h
    | exact opFunc_spec (C := C) (ty := ty) h
    | exact opMap_spec hC.toOK' h
    | exact opMakeSlice_spec hC.toOK' h
    | exact opSlice_spec hC.toOK' h
    | exact opFieldAddr_spec hC.toOK' h
    | exact opField_spec hC.toOK' h
    | exact opIndexAddr_spec hC.toOK' h
    | exact opIndex_spec hC.toOK' h
    | exact opLookup_spec hC.toOK' h
    | exact opMapUpdate_spec hC.toOK' h
    | exact opInsert_spec hC.toOK' h
    | exact opExtract_spec (C := C) (ty := ty) h
    | exact opCall_spec hC h
    | exact opDefer_spec (C := C) (ty := ty) h
    | exact opMapEntry_spec hC.toOK' h
    | exact opEntryStore_spec (C := C) (ty := ty) h
    | exact opRange_spec hC.toOK' h
    | exact opNext_spec (C := C) (ty := ty) h
    | exact opEntry_spec (C := C) (ty := ty) h
    | exact opAssert_spec hC.toOK' h
    | exact opPanic_spec (C := C) (ty := ty) h
end
end Go.Proofs.YthidihigidchgaaGreatDoor.Sy

namespace Go.Proofs.YthidihigidchgaaGreatDoor.Sy

/-! The small parts of open regions. -/
section
variable {C : Cx} {P : Program} {T : Tr AV} {H : AH} {N : Nat} {ty : TypeId} {dst : Option Tmp} {pos : String} {after : Array Edge} {guard : Option (Nat × Bool)} (hC : C.OKc P)
/-- a read: a value, nothing else -/
def Reads (P : Program) (T : Tr AV) (H : AH) (o : Oper) (v : AV) : Prop :=
  ∀ η w nt tmps, Mem η H w → TRel η T nt tmps → ∃ y, v.γ η = some y ∧ (execOp (evt tmps) o).run P w = .ok (.value y) w
theorem Vals.reads {s : Array Value → Sem Value} {o : Oper} {v : AV} (h : Vals P T H s v) (e : ∀ tmps, execOp (evt tmps) o = (do pure (.value (← s tmps)))) : Reads P T H o v := fun η w nt tmps hm hT => by
  obtain ⟨y, hy, hr⟩ := h η w nt tmps hm hT
  exact ⟨y, hy, by rw [e]; simp [hr]⟩
include hC
theorem readA_spec {o : Oper} {k : Kv} (h : readA o.op C T H k = true) : ∃ v, k v = true ∧ Reads P T H o v := by
  obtain ⟨dst, op, ty, pos, after, guard⟩ := o
  unfold readA at h
  split at h
  · rename_i t a _
    obtain ⟨u, hu, ha⟩ := ev_spec h
    obtain ⟨v, hv, hl⟩ := ldA_spec hC.toOK' hu
    refine ⟨v, hv, Vals.reads (s := fun tmps => Instr.loadAt t (evt tmps a)) (fun η w nt tmps hm hT => ?_) fun tmps => ?_⟩
    · obtain ⟨y, hy, hr, -⟩ := hl η w _ hm (ha η nt tmps hT)
      exact ⟨y, hy, hr⟩
    · simp_all [execOp]
  · rename_i t x ix ok _
    obtain ⟨v, hv, hV⟩ := lookV (P := P) hC.toOK' h
    exact ⟨v, hv, hV.reads fun tmps => by simp_all [execOp]⟩
  · rename_i op' t x y u _
    obtain ⟨a, ha, hx⟩ := ev_spec h
    obtain ⟨b, hb, hy⟩ := ev_spec ha
    obtain ⟨v, hv, ho⟩ := binA_spec hC.toOK' hb
    refine ⟨v, hv, Vals.reads (s := fun tmps => do eqGuard op' t x y (evt tmps x) (evt tmps y); binOp op' t (evt tmps x) (evt tmps y)) (fun η w nt tmps hm hT => ho η w _ _ hm (hx η nt tmps hT) (hy η nt tmps hT)) fun tmps => by simp_all [execOp]⟩
  · rename_i _ args ats hop
    have hop : op = .call { callee := .builtin .len, args := args, argTypes := ats } := hop
    subst hop
    obtain ⟨vs, hvs, hl⟩ := evL_spec _ h
    split at hvs
    · rename_i x t r hat
      obtain ⟨v, hv, hr⟩ := lenA_spec hC.toOK' (us := r) (tr := ty) hvs
      refine ⟨v, hv, fun η w nt tmps hm hT => ?_⟩
      obtain ⟨x', hx, e⟩ := γs1 (hl η nt tmps hT)
      obtain ⟨y, hy, hrun⟩ := hr η w x' hm hx
      refine ⟨y, hy, ?_⟩
      have e1 : args.map (evt tmps) = #[x'] := by rw [← mapA, e]
      have e2 : ats = (t :: r).toArray := by rw [← ats.toArray_toList, hat]
      subst e2
      simp [execOp, resolve, e1, invoke, builtin, hrun]
    · cases hvs
  · cases h
end
end Go.Proofs.YthidihigidchgaaGreatDoor.Sy

namespace Go.Proofs.YthidihigidchgaaGreatDoor.Sy

/-! A memory as a function of names. -/
structure MemF (η : Env) (F : Nat → Option AObj) (w : World) : Prop where
  objs : ∀ i o, F i = some o → ∃ p, η.ρ i = some p ∧ Holds η w i p o
  inj : ∀ i j oi oj pi pj, F i = some oi → F j = some oj → η.ρ i = some pi → η.ρ j = some pj → pi.1 = pj.1 → i = j
theorem Mem.toF {η : Env} {H : AH} {w : World} (h : Mem η H w) : MemF η (Tr.look H) w := ⟨h.objs, h.inj⟩
theorem MemF.less {η : Env} {F : Nat → Option AObj} {w : World} (h : MemF η F w) {H : AH} (hH : ∀ q o, Tr.look H q = some o → F q = some o) : Mem η H w :=
  ⟨fun i o e => h.objs i o (hH i o e), fun i j oi oj pi pj hi hj => h.inj i j oi oj pi pj (hH i oi hi) (hH j oj hj)⟩
/-- what becomes of a bigger memory, of which a part was worked on -/
def overF (F : Nat → Option AObj) (K K' : AH) (q : Nat) : Option AObj := match Tr.look K' q with
  | some o => some o
  | none => match Tr.look K q with
    | some _ => none
    | none => F q
section
variable {η η' : Env} {F : Nat → Option AObj} {K K' : AH} {N N' : Nat} {w w' : World}
theorem Mine.owned {η : Env} {K : AH} {b : Nat} (h : Mine η K b) : Owned η K b := let ⟨i, o, p, hi, _, hp, hb⟩ := h; ⟨i, o, p, hi, hp, hb⟩
/-- what is not of the part is of none of its blocks -/
theorem MemF.apart (hF : MemF η F w) (hK : ∀ q o, Tr.look K q = some o → F q = some o) (he : Evo η K N w η' K' N' w') {q : Nat} {o : AObj} (hq : F q = some o) (hn : Tr.look K q = none) :
    ∃ p, η.ρ q = some p ∧ η'.ρ q = some p ∧ Holds η' w' q p o ∧ p.1 < w.heap.size ∧ ¬ Owned η' K' p.1 := by
  obtain ⟨p, hp, hh⟩ := hF.objs q o hq
  have hno : ¬ Owned η K p.1 := by
    rintro ⟨i, oi, pi, hi, hpi, hb⟩
    have := hF.inj i q oi o pi p (hK i oi hi) hq hpi hp hb
    rw [this, hn] at hi; cases hi
  refine ⟨p, hp, he.le.ρ q p hp, hh.mono he.le (he.keep _ hh.lt fun h => hno (h.owned)), hh.lt, fun h => ?_⟩
  rcases he.own _ h with h | h
  · exact hno h
  · exact absurd hh.lt (Nat.not_lt.2 h)
theorem MemF.gone (hF : MemF η F w) (hK : ∀ q o, Tr.look K q = some o → F q = some o) (he : Evo η K N w η' K' N' w') {q : Nat} {o : AObj} (hq : F q = some o) (hn : Tr.look K q = none) : Tr.look K' q = none := by
  obtain ⟨p, _, hp', _, _, hno⟩ := hF.apart hK he hq hn
  cases h : Tr.look K' q with
  | none => rfl
  | some o' => exact absurd ⟨q, o', p, h, hp', rfl⟩ hno
theorem MemF.over (hF : MemF η F w) (hK : ∀ q o, Tr.look K q = some o → F q = some o) (he : Evo η K N w η' K' N' w') : MemF η' (overF F K K') w' := by
  have key : ∀ q o, overF F K K' q = some o → Tr.look K' q = some o ∨ (Tr.look K q = none ∧ F q = some o) := fun q o h => by
    unfold overF at h
    split at h
    · rename_i e; exact .inl (e.trans h)
    · split at h
      · cases h
      · rename_i e; exact .inr ⟨e, h⟩
  refine ⟨fun i o h => ?_, fun i j oi oj pi pj hi hj hpi hpj hb => ?_⟩
  · rcases key i o h with h | ⟨h1, h2⟩
    · exact he.mem.objs i o h
    · obtain ⟨p, _, hp, hh, _⟩ := hF.apart hK he h2 h1
      exact ⟨p, hp, hh⟩
  · rcases key i oi hi with hi | ⟨hi1, hi2⟩ <;> rcases key j oj hj with hj | ⟨hj1, hj2⟩
    · exact he.mem.inj i j oi oj pi pj hi hj hpi hpj hb
    · obtain ⟨p, _, hp, _, _, hno⟩ := hF.apart hK he hj2 hj1
      rw [hpj] at hp; cases hp
      exact absurd ⟨i, oi, pi, hi, hpi, hb⟩ hno
    · obtain ⟨p, _, hp, _, _, hno⟩ := hF.apart hK he hi2 hi1
      rw [hpi] at hp; cases hp
      exact absurd ⟨j, oj, pj, hj, hpj, hb.symm⟩ hno
    · obtain ⟨p, h1, h2, _⟩ := hF.apart hK he hi2 hi1
      obtain ⟨p', h1', h2', _⟩ := hF.apart hK he hj2 hj1
      rw [hpi] at h2; cases h2
      rw [hpj] at h2'; cases h2'
      exact hF.inj i j oi oj _ _ hi2 hj2 h1 h1' hb
/-- what is not of the part stays -/
theorem MemF.over_old (hF : MemF η F w) (hK : ∀ q o, Tr.look K q = some o → F q = some o) (he : Evo η K N w η' K' N' w') {q : Nat} {o : AObj} (hq : F q = some o) (hn : Tr.look K q = none) : overF F K K' q = some o := by
  unfold overF
  rw [hF.gone hK he hq hn, hn]; exact hq
theorem over_new {q : Nat} {o : AObj} (h : Tr.look K' q = some o) : overF F K K' q = some o := by
  unfold overF; rw [h]
/-- what became of a memory since a region's beginning -/
structure Since (η0 : Env) (H0 : AH) (w0 : World) (η : Env) (F : Nat → Option AObj) (w : World) : Prop where
  le : η0.le η
  mem : MemF η F w
  size : w0.heap.size ≤ w.heap.size
  keep : ∀ b, b < w0.heap.size → ¬ Mine η0 H0 b → w.heap[b]? = w0.heap[b]?
  mine : ∀ q o p, F q = some o → o.own = true → η.ρ q = some p → Mine η0 H0 p.1 ∨ w0.heap.size ≤ p.1
  own : ∀ q o p, F q = some o → η.ρ q = some p → Owned η0 H0 p.1 ∨ w0.heap.size ≤ p.1
  like : Like w0 w
theorem Since.refl {η0 : Env} {H0 : AH} {w0 : World} (h : Mem η0 H0 w0) : Since η0 H0 w0 η0 (Tr.look H0) w0 :=
  ⟨.refl _, h.toF, Nat.le_refl _, fun _ _ _ => rfl, fun q o p h1 ho h2 => .inl ⟨q, o, p, h1, ho, h2, rfl⟩, fun q o p h1 h2 => .inl ⟨q, o, p, h1, h2, rfl⟩, .refl _⟩
theorem Since.step {η0 : Env} {H0 : AH} {w0 : World} (s : Since η0 H0 w0 η F w) (hK : ∀ q o, Tr.look K q = some o → F q = some o) (he : Evo η K N w η' K' N' w') : Since η0 H0 w0 η' (overF F K K') w' where
  le := s.le.trans he.le
  mem := s.mem.over hK he
  size := Nat.le_trans s.size he.size
  keep b hb hn := by
    have : ¬ Mine η K b := by
      rintro ⟨q, o, p, h1, ho, h2, rfl⟩
      rcases s.mine q o p (hK q o h1) ho h2 with h | h
      · exact hn h
      · exact absurd hb (Nat.not_lt.2 h)
    exact (he.keep b (Nat.lt_of_lt_of_le hb s.size) this).trans (s.keep b hb hn)
  own q o p h1 h2 := by
    have key : Tr.look K' q = some o ∨ (Tr.look K q = none ∧ F q = some o) := by
      unfold overF at h1
      split at h1
      · rename_i e; exact .inl (e.trans h1)
      · split at h1
        · cases h1
        · rename_i e; exact .inr ⟨e, h1⟩
    rcases key with h | ⟨h, h'⟩
    · rcases he.own p.1 ⟨q, o, p, h, h2, rfl⟩ with ⟨q', o', p', a, b, c⟩ | hb
      · have := s.own q' o' p' (hK q' o' a) b
        rw [c] at this; exact this
      · exact .inr (Nat.le_trans s.size hb)
    · obtain ⟨p', a, b, _⟩ := s.mem.apart hK he h' h
      rw [h2] at b; cases b
      exact s.own q o p h' a
  mine q o p h1 ho h2 := by
    have key : Tr.look K' q = some o ∨ (Tr.look K q = none ∧ F q = some o) := by
      unfold overF at h1
      split at h1
      · rename_i e; exact .inl (e.trans h1)
      · split at h1
        · cases h1
        · rename_i e; exact .inr ⟨e, h1⟩
    rcases key with h | ⟨h, h'⟩
    · rcases he.mine p.1 ⟨q, o, p, h, ho, h2, rfl⟩ with ⟨q', o', p', a, ho', b, c⟩ | hb
      · have := s.mine q' o' p' (hK q' o' a) ho' b
        rw [c] at this; exact this
      · exact .inr (Nat.le_trans s.size hb)
    · obtain ⟨p', a, b, _⟩ := s.mem.apart hK he h' h
      rw [h2] at b; cases b
      exact s.mine q o p h' ho a
  like := s.like.trans he.like
/-- at the region's end -/
theorem Since.evo {η0 : Env} {H0 H : AH} {N0 N : Nat} {w0 : World} (s : Since η0 H0 w0 η F w) (hH : ∀ q o, Tr.look H q = some o → F q = some o) (hn : N0 ≤ N)
    (ho : ∀ i, i < N0 ∨ N ≤ i → η.ρ i = η0.ρ i ∧ η.κ i = η0.κ i) : Evo η0 H0 N0 w0 η H N w where
  le := s.le
  out := ho
  nn := hn
  mem := s.mem.less hH
  size := s.size
  keep := s.keep
  own b h := by
    obtain ⟨q, o, p, h1, h2, rfl⟩ := h
    exact s.own q o p (hH q o h1) h2
  mine b h := by
    obtain ⟨q, o, p, h1, ho, h2, rfl⟩ := h
    exact s.mine q o p (hH q o h1) ho h2
  like := s.like
end
end Go.Proofs.YthidihigidchgaaGreatDoor.Sy

namespace Go.Proofs.YthidihigidchgaaGreatDoor.Sy

/-! The small steps of open regions. -/
theorem put_spec {T : Tr AV} {nt : Nat} {d : Option Tmp} {v : AV} {k : Tr AV → Bool} (h : put T nt d v k = true) :
    ∃ T', k T' = true ∧ (∀ q, Tr.look T' q = if d = some q then some v else Tr.look T q) ∧ ∀ t, d = some t → t < nt := by
  cases d with
  | none => exact ⟨T, h, fun q => by simp, fun t e => by cases e⟩
  | some d =>
    have h : Bool.rec (motive := fun _ => Bool) false (Tr.set T d (some v) k) (Nat.ble (Nat.succ d) nt) = true := h
    cases hb : Nat.ble (Nat.succ d) nt with
    | false => rw [hb] at h; cases h
    | true =>
      rw [hb] at h
      obtain ⟨T', hk, hl⟩ := Tr.set_spec h
      refine ⟨T', hk, fun q => ?_, fun t e => ?_⟩
      · rw [hl]
        by_cases e : q = d
        · subst e; simp
        · rw [if_neg e, if_neg (fun h => e (by cases h; rfl))]
      · cases e; exact Nat.le_of_ble_eq_true hb
theorem TRel.put {η : Env} {T T' : Tr AV} {nt : Nat} {a : Act} {d : Option Tmp} {v : AV} {y : Value} (h : TRel η T nt a.tmps) (hv : v.γ η = some y)
    (hl : ∀ q, Tr.look T' q = if d = some q then some v else Tr.look T q) (hn : ∀ t, d = some t → t < nt) : TRel η T' nt (a.put d y).tmps := by
  cases d with
  | none => exact ⟨h.size, fun i u e => h.at_ i u (by rw [hl] at e; simpa using e)⟩
  | some d =>
    refine ⟨by simpa [Act.put] using h.size, fun i u e => ?_⟩
    rw [hl] at e
    by_cases hi : d = i
    · subst hi
      rw [if_pos rfl] at e
      cases e
      refine ⟨y, hv, ?_⟩
      have : d < a.tmps.size := by rw [h.size]; exact hn d rfl
      simp [Act.put, this]
    · rw [if_neg (fun h => hi (by cases h; rfl))] at e
      obtain ⟨x, hx, he⟩ := h.at_ i u e
      refine ⟨x, hx, ?_⟩
      simp only [Act.put]
      rw [Array.getElem?_setIfInBounds_ne hi]; exact he
theorem onlyK_spec : ∀ (l : List Operand) {T R : Tr AV} {k : Tr AV → Bool}, onlyK T l R k = true → ∃ R', k R' = true ∧ ∀ q v, Tr.look R' q = some v → Tr.look R q = some v ∨ (Tr.look T q = some v ∧ Operand.tmp q ∈ l)
  | [], T, R, k, h => ⟨R, h, fun q v e => .inl e⟩
  | x :: r, T, R, k, h => by
    cases x with
    | tmp t =>
      obtain ⟨v, hv, hk⟩ := Tr.get_spec (show Tr.get T t (fun v => Tr.set R t (some v) fun R => onlyK T r R k) = true from h)
      obtain ⟨R1, hk, hl⟩ := Tr.set_spec hk
      obtain ⟨R', hk, hr⟩ := onlyK_spec r hk
      refine ⟨R', hk, fun q u e => ?_⟩
      rcases hr q u e with e | ⟨e, hm⟩
      · rw [hl] at e
        split at e
        · rename_i eq; subst eq; cases e
          exact .inr ⟨hv, by simp⟩
        · exact .inl e
      · exact .inr ⟨e, by simp [hm]⟩
    | const _ =>
      obtain ⟨R', hk, hr⟩ := onlyK_spec r (show onlyK T r R k = true from h)
      exact ⟨R', hk, fun q u e => (hr q u e).imp id fun h => ⟨h.1, by simp [h.2]⟩⟩
    | global _ =>
      obtain ⟨R', hk, hr⟩ := onlyK_spec r (show onlyK T r R k = true from h)
      exact ⟨R', hk, fun q u e => (hr q u e).imp id fun h => ⟨h.1, by simp [h.2]⟩⟩
    | func _ =>
      obtain ⟨R', hk, hr⟩ := onlyK_spec r (show onlyK T r R k = true from h)
      exact ⟨R', hk, fun q u e => (hr q u e).imp id fun h => ⟨h.1, by simp [h.2]⟩⟩
theorem prune_spec {bits : Nat} : ∀ (ps : List Pend) {H : AH} {k : AH → Bool}, prune bits ps H k = true → ∃ K, k K = true ∧ ∀ q o, Tr.look K q = some o → Tr.look H q = some o ∧ ∀ p ∈ ps, p.id = q → bitOn bits p.at_ = true
  | [], H, k, h => ⟨H, h, fun q o e => ⟨e, by simp⟩⟩
  | p :: r, H, k, h => by
    simp only [prune] at h
    split at h
    · rename_i hb
      obtain ⟨K, hk, hr⟩ := prune_spec r h
      refine ⟨K, hk, fun q o e => ⟨(hr q o e).1, fun p' hp' he => ?_⟩⟩
      rcases List.mem_cons.1 hp' with rfl | hp'
      · exact hb
      · exact (hr q o e).2 p' hp' he
    · obtain ⟨H1, hk, hl⟩ := Tr.set_spec h
      obtain ⟨K, hk, hr⟩ := prune_spec r hk
      refine ⟨K, hk, fun q o e => ?_⟩
      have h1 := (hr q o e).1
      rw [hl] at h1
      split at h1
      · cases h1
      · rename_i hne
        refine ⟨h1, fun p' hp' he => ?_⟩
        rcases List.mem_cons.1 hp' with rfl | hp'
        · exact absurd he.symm hne
        · exact (hr q o e).2 p' hp' he
theorem graft_spec {bits : Nat} : ∀ (ps : List Pend) {H : AH} {k : AH → Bool}, graft bits ps H k = true → ∃ K, k K = true ∧ ∀ q o, Tr.look K q = some o → Tr.look H q = some o ∨ ∃ p ∈ ps, p.id = q ∧ p.obj = o ∧ bitOn bits p.at_ = false
  | [], H, k, h => ⟨H, h, fun q o e => .inl e⟩
  | p :: r, H, k, h => by
    simp only [graft] at h
    split at h
    · obtain ⟨K, hk, hr⟩ := graft_spec r h
      exact ⟨K, hk, fun q o e => (hr q o e).imp id fun ⟨p', a, b⟩ => ⟨p', by simp [a], b⟩⟩
    · rename_i hb
      obtain ⟨H1, hk, hl⟩ := Tr.set_spec h
      obtain ⟨K, hk, hr⟩ := graft_spec r hk
      refine ⟨K, hk, fun q o e => ?_⟩
      rcases hr q o e with h1 | ⟨p', a, b⟩
      · rw [hl] at h1
        split at h1
        · rename_i eq; cases h1
          exact .inr ⟨p, by simp, eq.symm, rfl, by simpa using hb⟩
        · exact .inl h1
      · exact .inr ⟨p', by simp [a], b⟩
theorem newTo_spec {N : Nat} : ∀ {l : List (Nat × AH)}, newTo N l = true → ∀ x ∈ l, Tr.look x.2 N = none
  | [], _, x, hx => by cases hx
  | (i, H) :: r, h, x, hx => by
    simp only [newTo] at h
    split at h
    · cases h
    · rename_i hb
      rcases List.mem_cons.1 hx with rfl | hx
      · exact Tr.hasK_false hb
      · exact newTo_spec h x hx

/-! Values written the same are the same. -/
end Go.Proofs.YthidihigidchgaaGreatDoor.Sy
