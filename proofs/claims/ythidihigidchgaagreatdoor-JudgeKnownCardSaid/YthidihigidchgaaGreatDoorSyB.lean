/- What abstract values, memories and numbers of the runner mean: proved of every program whose tables are right. -/
import Derived.Test.YthidihigidchgaaGreatDoorSyA
import Derived.Laws.Sem
import Derived.Laws.Entries
import Derived.Laws.Cells
import Derived.Laws.Strings
import Derived.Laws.StructEq
set_option linter.unusedVariables false
set_option linter.unusedSimpArgs false

namespace Go.Proofs.YthidihigidchgaaGreatDoor.Sy
/-! What the runner's words mean. -/

/-! Trees. -/
namespace Tr
variable {α : Type}
def pick (v : List (Tr α)) (i : Nat) : Tr α := v.getD i .e
def lookD : Nat → Tr α → Nat → Option α
  | 0, _, _ => none
  | _ + 1, .e, _ => none
  | _ + 1, .n v _ _ _ _ _ _ _ _, 0 => v
  | d + 1, .n _ a b c d' q f g h, p + 1 => lookD d (pick [a, b, c, d', q, f, g, h] (p % 8)) (p / 8)
def look (t : Tr α) (p : Nat) : Option α := lookD 8 t p

theorem sel_eq {β : Type} (a b c d e f g h : β) (i : Nat) (hi : i < 8) : sel a b c d e f g h i = ([a, b, c, d, e, f, g, h][i]'(by simpa using hi)) := by
  match i, hi with
  | 0, _ => rfl
  | 1, _ => rfl
  | 2, _ => rfl
  | 3, _ => rfl
  | 4, _ => rfl
  | 5, _ => rfl
  | 6, _ => rfl
  | 7, _ => rfl

theorem getK_spec (k : α → Bool) : ∀ (d : Nat) (t : Tr α) (p : Nat), getK d t p k = true → ∃ x, lookD d t p = some x ∧ k x = true
  | 0, _, _, h => by simp [getK] at h
  | d + 1, .e, _, h => by simp [getK] at h
  | d + 1, .n v a b c d' q f g h', 0, h => by
    cases v with
    | none => exact absurd h (by simp [getK])
    | some x => exact ⟨x, rfl, h⟩
  | d + 1, .n v a b c d' q f g h', p + 1, h => by
    have h : getK d (sel a b c d' q f g h' (Nat.mod p 8)) (Nat.div p 8) k = true := h
    have hm : p % 8 < 8 := Nat.mod_lt _ (by decide)
    have e : sel a b c d' q f g h' (Nat.mod p 8) = pick [a, b, c, d', q, f, g, h'] (p % 8) := by
      show sel a b c d' q f g h' (p % 8) = _
      rw [sel_eq _ _ _ _ _ _ _ _ _ hm]; simp [pick, List.getD, hm]
    rw [e] at h
    exact getK_spec k d _ _ h

theorem get_spec {t : Tr α} {p : Nat} {k : α → Bool} (h : get t p k = true) : ∃ x, look t p = some x ∧ k x = true := getK_spec k 8 t p h
theorem getK_of {k : α → Bool} : ∀ (d : Nat) (t : Tr α) (p : Nat) {x : α}, lookD d t p = some x → getK d t p k = k x
  | 0, _, _, _, h => by simp [lookD] at h
  | d + 1, .e, _, _, h => by simp [lookD] at h
  | d + 1, .n v a b c d' q f g h', 0, x, h => by
    have h : v = some x := h
    subst h; rfl
  | d + 1, .n v a b c d' q f g h', p + 1, x, h => by
    have h : lookD d (pick [a, b, c, d', q, f, g, h'] (p % 8)) (p / 8) = some x := h
    have hm : p % 8 < 8 := Nat.mod_lt _ (by decide)
    have e : sel a b c d' q f g h' (Nat.mod p 8) = pick [a, b, c, d', q, f, g, h'] (p % 8) := by
      show sel a b c d' q f g h' (p % 8) = _
      rw [sel_eq _ _ _ _ _ _ _ _ _ hm]; simp [pick, List.getD, hm]
    show getK d (sel a b c d' q f g h' (Nat.mod p 8)) (Nat.div p 8) k = k x
    rw [e]; exact getK_of d _ _ h
theorem get_of {t : Tr α} {p : Nat} {k : α → Bool} {x : α} (h : look t p = some x) : get t p k = k x := getK_of 8 t p h
theorem hasK_false {t : Tr α} {p : Nat} (h : hasK t p = false) : look t p = none := by
  cases e : look t p with
  | none => rfl
  | some x => simp [hasK, get_of e] at h
theorem hasK_true {t : Tr α} {p : Nat} (h : hasK t p = true) : ∃ x, look t p = some x := by
  obtain ⟨x, hx, _⟩ := get_spec h; exact ⟨x, hx⟩

theorem lookD_e (d p : Nat) : lookD d (.e : Tr α) p = none := by cases d <;> simp [lookD]

theorem setK_spec (x : Option α) : ∀ (d : Nat) (t : Tr α) (p : Nat) (k : Tr α → Bool), setK d t p x k = true →
    ∃ t', k t' = true ∧ ∀ q, lookD d t' q = if q = p then x else lookD d t q := by
  intro d
  induction d with
  | zero => intro t p k h; simp [setK] at h
  | succ d ih =>
    have node : ∀ (v : Option α) (a b c d' q f g h' : Tr α) (p : Nat) (k : Tr α → Bool),
        under (setK d) v a b c d' q f g h' (Nat.div p 8) x k (Nat.mod p 8) = true →
        ∃ t', k t' = true ∧ ∀ r, lookD (d + 1) t' r = if r = p + 1 then x else lookD (d + 1) (.n v a b c d' q f g h') r := by
      intro v a b c d' q f g h' p k h
      have hm : p % 8 < 8 := Nat.mod_lt _ (by decide)
      have key : ∃ (s s' : Tr α) (l l' : List (Tr α)), [a, b, c, d', q, f, g, h'] = l ++ s :: l' ∧ l.length = p % 8 ∧ setK d s (p / 8) x
          (fun s' => k (match l ++ s' :: l' with | [a, b, c, d', q, f, g, h'] => .n v a b c d' q f g h' | _ => .e)) = true := by
        have h : under (setK d) v a b c d' q f g h' (p / 8) x k (p % 8) = true := h
        generalize p % 8 = m at h hm
        match m, hm with
        | 0, _ => exact ⟨a, a, [], [b, c, d', q, f, g, h'], rfl, rfl, h⟩
        | 1, _ => exact ⟨b, b, [a], [c, d', q, f, g, h'], rfl, rfl, h⟩
        | 2, _ => exact ⟨c, c, [a, b], [d', q, f, g, h'], rfl, rfl, h⟩
        | 3, _ => exact ⟨d', d', [a, b, c], [q, f, g, h'], rfl, rfl, h⟩
        | 4, _ => exact ⟨q, q, [a, b, c, d'], [f, g, h'], rfl, rfl, h⟩
        | 5, _ => exact ⟨f, f, [a, b, c, d', q], [g, h'], rfl, rfl, h⟩
        | 6, _ => exact ⟨g, g, [a, b, c, d', q, f], [h'], rfl, rfl, h⟩
        | 7, _ => exact ⟨h', h', [a, b, c, d', q, f, g], [], rfl, rfl, h⟩
      obtain ⟨s, -, l, l', hl, hlen, hs⟩ := key
      obtain ⟨s', hk, hlook⟩ := ih s (p / 8) _ hs
      refine ⟨_, hk, ?_⟩
      have h8 : l.length + l'.length = 7 := by
        have := congrArg List.length hl; simp at this; omega
      obtain ⟨a', b', c', e', q', f', g', h'', hl'⟩ : ∃ a' b' c' e' q' f' g' h'', l ++ s' :: l' = [a', b', c', e', q', f', g', h''] := by
        have : (l ++ s' :: l').length = 8 := by simp; omega
        match hx : l ++ s' :: l', this with
        | [a', b', c', e', q', f', g', h''], _ => exact ⟨_, _, _, _, _, _, _, _, rfl⟩
      rw [hl']
      intro r
      cases r with
      | zero => simp [lookD]
      | succ r =>
        have hr : r % 8 < 8 := Nat.mod_lt _ (by decide)
        simp only [lookD]
        rw [← hl', hl]
        by_cases hd : r % 8 = p % 8
        · have e1 : pick (l ++ s' :: l') (r % 8) = s' := by simp [pick, hd, ← hlen]
          have e2 : pick (l ++ s :: l') (r % 8) = s := by simp [pick, hd, ← hlen]
          rw [e1, e2, hlook]
          by_cases hq : r / 8 = p / 8
          · have : r = p := by omega
            subst this; simp
          · have : r ≠ p := fun e => hq (by rw [e])
            simp [hq, this]
        · have e1 : pick (l ++ s' :: l') (r % 8) = pick (l ++ s :: l') (r % 8) := by
            unfold pick
            rw [List.getD_eq_getElem?_getD, List.getD_eq_getElem?_getD]
            congr 1
            rw [List.getElem?_append, List.getElem?_append]
            split
            · rfl
            · rename_i hlt
              have : r % 8 - l.length ≠ 0 := by omega
              obtain ⟨z, hz⟩ : ∃ z, r % 8 - l.length = z + 1 := ⟨r % 8 - l.length - 1, by omega⟩
              rw [hz]; rfl
          have : r ≠ p := fun e => hd (by rw [e])
          rw [e1]; simp [this]
    intro t p k h
    cases t with
    | e =>
      cases p with
      | zero =>
        refine ⟨_, h, ?_⟩
        intro r
        cases r with
        | zero => simp [lookD]
        | succ r =>
          simp only [lookD]
          have hr : r % 8 < 8 := Nat.mod_lt _ (by decide)
          have : pick [(.e : Tr α), .e, .e, .e, .e, .e, .e, .e] (r % 8) = .e := by
            generalize r % 8 = m at hr
            match m, hr with
            | 0, _ => rfl
            | 1, _ => rfl
            | 2, _ => rfl
            | 3, _ => rfl
            | 4, _ => rfl
            | 5, _ => rfl
            | 6, _ => rfl
            | 7, _ => rfl
          rw [this, lookD_e]; simp
      | succ p =>
        obtain ⟨t', hk, hl⟩ := node none .e .e .e .e .e .e .e .e p k h
        refine ⟨t', hk, fun r => ?_⟩
        rw [hl]
        congr 1
        cases r with
        | zero => simp [lookD]
        | succ r =>
          simp only [lookD]
          have hr : r % 8 < 8 := Nat.mod_lt _ (by decide)
          have : pick [(.e : Tr α), .e, .e, .e, .e, .e, .e, .e] (r % 8) = .e := by
            generalize r % 8 = m at hr
            match m, hr with
            | 0, _ => rfl
            | 1, _ => rfl
            | 2, _ => rfl
            | 3, _ => rfl
            | 4, _ => rfl
            | 5, _ => rfl
            | 6, _ => rfl
            | 7, _ => rfl
          rw [this, lookD_e]
    | n v a b c d' q f g h' =>
      cases p with
      | zero =>
        refine ⟨_, h, ?_⟩
        intro r
        cases r with
        | zero => simp [lookD]
        | succ r => simp [lookD]
      | succ p => exact node v a b c d' q f g h' p k h

theorem set_spec {t : Tr α} {p : Nat} {x : Option α} {k : Tr α → Bool} (h : set t p x k = true) :
    ∃ t', k t' = true ∧ ∀ q, look t' q = if q = p then x else look t q := setK_spec x 8 t p k h

theorem look_e (p : Nat) : look (.e : Tr α) p = none := lookD_e 8 p

theorem ofList_spec : ∀ (l : List α) (i : Nat) (t : Tr α) (k : Tr α → Bool), ofList l i t k = true →
    ∃ t', k t' = true ∧ ∀ q, look t' q = if i ≤ q ∧ q < i + l.length then l[q - i]? else look t q
  | [], i, t, k, h => ⟨t, h, fun q => by simp; omega⟩
  | x :: l, i, t, k, h => by
    have h : set t i (some x) (fun t => ofList l (Nat.succ i) t k) = true := h
    obtain ⟨t1, h1, hl1⟩ := set_spec h
    obtain ⟨t2, h2, hl2⟩ := ofList_spec l (i + 1) t1 k h1
    refine ⟨t2, h2, fun q => ?_⟩
    rw [hl2]
    by_cases hq : q = i
    · subst hq
      rw [if_neg (by omega), hl1, if_pos rfl, if_pos (by simp)]; simp
    · by_cases hc : i + 1 ≤ q ∧ q < i + 1 + l.length
      · rw [if_pos hc, if_pos (by simp; omega)]
        obtain ⟨z, hz⟩ : ∃ z, q - i = z + 1 := ⟨q - i - 1, by omega⟩
        have : q - (i + 1) = z := by omega
        rw [hz, this]; rfl
      · rw [if_neg hc, hl1, if_neg hq, if_neg (by simp; omega)]
end Tr

/-! Writing out. -/
@[simp] theorem fzNat_eq (n : Nat) (k : Nat → Bool) : fzNat n k = k n := by cases n <;> rfl
@[simp] theorem fzInt_eq (n : Int) (k : Int → Bool) : fzInt n k = k n := by cases n <;> simp [fzInt]
@[simp] theorem fzBool_eq (b : Bool) (k : Bool → Bool) : fzBool b k = k b := by cases b <;> rfl
@[simp] theorem fzNats_eq : ∀ (l : List Nat) (k : List Nat → Bool), fzNats l k = k l
  | [], _ => rfl
  | x :: l, k => by
    show (fzNat x fun x => fzNats l fun r => k (x :: r)) = _
    simp [fzNats_eq l]
@[simp] theorem fz1_eq (v : AV) (k : AV → Bool) : fz1 v k = k v := by cases v <;> simp [fz1]
@[simp] theorem fzL_eq : ∀ (l : List AV) (k : List AV → Bool), fzL l k = k l
  | [], _ => rfl
  | x :: l, k => by
    show (fz1 x fun x => fzL l fun r => k (x :: r)) = _
    simp [fzL_eq l]
@[simp] theorem fz_eq (v : AV) (k : AV → Bool) : fz v k = k v := by cases v <;> simp [fz]

/-! What abstract values stand for. -/
structure Env where
  ρ : Nat → Option (Nat × Nat)
  κ : Nat → Option Nat
  at_ : Nat → Value

structure Env.le (a b : Env) : Prop where
  ρ : ∀ i p, a.ρ i = some p → b.ρ i = some p
  κ : ∀ i c, a.κ i = some c → b.κ i = some c
  at_ : a.at_ = b.at_
theorem Env.le.refl (a : Env) : a.le a := ⟨fun _ _ h => h, fun _ _ h => h, rfl⟩
theorem Env.le.trans {a b c : Env} (h : a.le b) (h' : b.le c) : a.le c := ⟨fun i p e => h'.ρ i p (h.ρ i p e), fun i p e => h'.κ i p (h.κ i p e), h.at_.trans h'.at_⟩

def addr (p : Nat × Nat) (o : Nat) : Addr := ⟨p.1, p.2 + o, none⟩

mutual
def AV.γ (η : Env) : AV → Option Value
  | .bool b => some (.bool b)
  | .int k n => some (.int k n)
  | .float k b => some (.float k b)
  | .complex k a b => some (.complex k a b)
  | .str s => some (.string ⟨(s.map UInt8.ofNat).toArray⟩)
  | .nilp => some (.pointer none)
  | .ptr i o => (η.ρ i).map fun p => .pointer (some (addr p o))
  | .nils => some (.slice none 0 0)
  | .slice i o l c => if l ≤ c then (η.ρ i).map fun p => .slice (some (addr p o)) l c else none
  | .slicex i o l s m => match η.ρ i, η.κ s with
    | some p, some c => if m + l ≤ c then some (.slice (some (addr p o)) l (c - m)) else none
    | _, _ => none
  | .nilm => some (.map none)
  | .map i => (η.ρ i).map fun p => .map (some p.1)
  | .func (.yield _) _ _ => none
  | .func fn a b => match γs η a, γs η b with
    | some x, some y => some (.func fn x.toArray y.toArray)
    | _, _ => none
  | .yield i => (η.ρ i).map fun p => .func (.yield p.1) #[] #[]
  | .nilFunc => some .nilFunc
  | .iface t v => (v.γ η).map (.iface t)
  | .nilIface => some .nilIface
  | .agg cs => (γs η cs).map fun l => .agg l.toArray
  | .tuple cs => (γs η cs).map fun l => .tuple l.toArray
  | .atom i => match η.at_ i with
    | .agg _ => none
    | .tuple _ => none
    | v => some v
def γs (η : Env) : List AV → Option (List Value)
  | [] => some []
  | v :: r => match v.γ η, γs η r with
    | some x, some l => some (x :: l)
    | _, _ => none
end
end Go.Proofs.YthidihigidchgaaGreatDoor.Sy

namespace Go.Proofs.YthidihigidchgaaGreatDoor.Sy

mutual
theorem γ_mono {a b : Env} (h : a.le b) : ∀ (v : AV) (x : Value), v.γ a = some x → v.γ b = some x
  | .bool _, x, e => by simpa [AV.γ] using e
  | .int _ _, x, e => by simpa [AV.γ] using e
  | .float _ _, x, e => by simpa [AV.γ] using e
  | .complex _ _ _, x, e => by simpa [AV.γ] using e
  | .str _, x, e => by simpa [AV.γ] using e
  | .nilp, x, e => by simpa [AV.γ] using e
  | .nils, x, e => by simpa [AV.γ] using e
  | .nilm, x, e => by simpa [AV.γ] using e
  | .nilFunc, x, e => by simpa [AV.γ] using e
  | .nilIface, x, e => by simpa [AV.γ] using e
  | .ptr i o, x, e => by
    simp only [AV.γ, Option.map_eq_some_iff] at e ⊢
    obtain ⟨p, hp, rfl⟩ := e
    exact ⟨p, h.ρ i p hp, rfl⟩
  | .slice i o l c, x, e => by
    simp only [AV.γ] at e ⊢
    split at e
    · rename_i hl
      rw [if_pos hl]
      simp only [Option.map_eq_some_iff] at e ⊢
      obtain ⟨p, hp, rfl⟩ := e
      exact ⟨p, h.ρ i p hp, rfl⟩
    · cases e
  | .slicex i o l s m, x, e => by
    simp only [AV.γ] at e ⊢
    split at e
    · rename_i p c hp hc
      rw [h.ρ i p hp, h.κ s c hc]; exact e
    · cases e
  | .map i, x, e => by
    simp only [AV.γ, Option.map_eq_some_iff] at e ⊢
    obtain ⟨p, hp, rfl⟩ := e
    exact ⟨p, h.ρ i p hp, rfl⟩
  | .yield i, x, e => by
    simp only [AV.γ, Option.map_eq_some_iff] at e ⊢
    obtain ⟨p, hp, rfl⟩ := e
    exact ⟨p, h.ρ i p hp, rfl⟩
  | .func fn l r, x, e => by
    cases fn with
    | yield i => simp [AV.γ] at e
    | _ =>
      simp only [AV.γ] at e ⊢
      split at e
      · rename_i y z hy hz
        rw [γs_mono h l y hy, γs_mono h r z hz]; exact e
      · cases e
  | .iface t v, x, e => by
    simp only [AV.γ, Option.map_eq_some_iff] at e ⊢
    obtain ⟨p, hp, rfl⟩ := e
    exact ⟨p, γ_mono h v p hp, rfl⟩
  | .agg l, x, e => by
    simp only [AV.γ, Option.map_eq_some_iff] at e ⊢
    obtain ⟨p, hp, rfl⟩ := e
    exact ⟨p, γs_mono h l p hp, rfl⟩
  | .tuple l, x, e => by
    simp only [AV.γ, Option.map_eq_some_iff] at e ⊢
    obtain ⟨p, hp, rfl⟩ := e
    exact ⟨p, γs_mono h l p hp, rfl⟩
  | .atom i, x, e => by
    simp only [AV.γ] at e ⊢
    rw [← h.at_]; exact e
theorem γs_mono {a b : Env} (h : a.le b) : ∀ (l : List AV) (x : List Value), γs a l = some x → γs b l = some x
  | [], x, e => by simpa [γs] using e
  | v :: r, x, e => by
    simp only [γs] at e ⊢
    split at e
    · rename_i y z hy hz
      rw [γ_mono h v y hy, γs_mono h r z hz]; exact e
    · cases e
end

theorem γs_nil (η : Env) : γs η [] = some [] := by simp [γs]
theorem γs_cons {η : Env} {v : AV} {r : List AV} {l : List Value} : γs η (v :: r) = some l ↔ ∃ x s, v.γ η = some x ∧ γs η r = some s ∧ l = x :: s := by
  simp only [γs]
  constructor
  · intro h
    split at h
    · rename_i y z hy hz
      exact ⟨y, z, hy, hz, (Option.some.inj h).symm⟩
    · cases h
  · rintro ⟨x, s, hx, hs, rfl⟩
    rw [hx, hs]
theorem γs_cons_mk {η : Env} {v : AV} {r : List AV} {x : Value} {s : List Value} (hx : v.γ η = some x) (hs : γs η r = some s) : γs η (v :: r) = some (x :: s) :=
  γs_cons.2 ⟨x, s, hx, hs, rfl⟩
theorem γs_length {η : Env} : ∀ {l : List AV} {x : List Value}, γs η l = some x → x.length = l.length
  | [], x, h => by simp [γs] at h; simp [← h]
  | v :: r, x, h => by
    obtain ⟨y, s, _, hs, rfl⟩ := γs_cons.1 h
    simp [γs_length hs]
theorem γs_append {η : Env} : ∀ {l r : List AV} {x y : List Value}, γs η l = some x → γs η r = some y → γs η (l ++ r) = some (x ++ y)
  | [], r, x, y, h, h' => by simp [γs] at h; subst h; simpa using h'
  | v :: l, r, x, y, h, h' => by
    obtain ⟨a, s, ha, hs, rfl⟩ := γs_cons.1 h
    exact γs_cons_mk ha (γs_append hs h')
theorem γs_get {η : Env} : ∀ {l : List AV} {x : List Value} {j : Nat} {v : AV}, γs η l = some x → l[j]? = some v → ∃ y, x[j]? = some y ∧ v.γ η = some y
  | [], x, j, v, h, e => by simp at e
  | u :: l, x, j, v, h, e => by
    obtain ⟨a, s, ha, hs, rfl⟩ := γs_cons.1 h
    cases j with
    | zero => simp at e; subst e; exact ⟨a, rfl, ha⟩
    | succ j => simp at e; simpa using γs_get hs e
theorem γs_of {η : Env} : ∀ {l : List AV} {x : List Value}, l.length = x.length → (∀ (j : Nat) (v : AV) (y : Value), l[j]? = some v → x[j]? = some y → v.γ η = some y) → γs η l = some x
  | [], [], _, _ => γs_nil η
  | [], _ :: _, h, _ => by simp at h
  | _ :: _, [], h, _ => by simp at h
  | v :: l, y :: x, h, e => γs_cons_mk (e 0 v y rfl rfl) (γs_of (by simpa using h) fun j u z hu hz => e (j + 1) u z (by simpa using hu) (by simpa using hz))

theorem bytes_back (s : ByteArray) : (⟨((s.data.toList.map UInt8.toNat).map UInt8.ofNat).toArray⟩ : ByteArray) = s := by
  cases s with
  | mk d =>
    congr
    simp [Function.comp_def]

mutual
theorem absV_spec (η : Env) : ∀ (x : Value) (v : AV), absV x = some v → v.γ η = some x
  | .bool _, v, e => by simp [absV] at e; subst e; simp [AV.γ]
  | .int _ _, v, e => by simp [absV] at e; subst e; simp [AV.γ]
  | .float _ _, v, e => by simp [absV] at e; subst e; simp [AV.γ]
  | .complex _ _ _, v, e => by simp [absV] at e; subst e; simp [AV.γ]
  | .string s, v, e => by simp only [absV, Option.some.injEq] at e; subst e; simp only [AV.γ]; rw [bytes_back]
  | .pointer none, v, e => by simp [absV] at e; subst e; simp [AV.γ]
  | .pointer (some _), v, e => by simp [absV] at e
  | .slice none 0 0, v, e => by simp [absV] at e; subst e; simp [AV.γ]
  | .slice none 0 (_ + 1), v, e => by simp [absV] at e
  | .slice none (_ + 1) _, v, e => by simp [absV] at e
  | .slice (some _) _ _, v, e => by simp [absV] at e
  | .map none, v, e => by simp [absV] at e; subst e; simp [AV.γ]
  | .map (some _), v, e => by simp [absV] at e
  | .chan _, v, e => by simp [absV] at e
  | .nilFunc, v, e => by simp [absV] at e; subst e; simp [AV.γ]
  | .nilIface, v, e => by simp [absV] at e; subst e; simp [AV.γ]
  | .iface t x, v, e => by
    simp only [absV] at e
    split at e
    · rename_i a ha
      simp at e; subst e
      simp [AV.γ, absV_spec η x a ha]
    · cases e
  | .agg l, v, e => by
    simp only [absV] at e
    split at e
    · rename_i a ha
      simp at e; subst e
      simp [AV.γ, absA_spec η l a ha]
    · cases e
  | .tuple l, v, e => by
    simp only [absV] at e
    split at e
    · rename_i a ha
      simp at e; subst e
      simp [AV.γ, absA_spec η l a ha]
    · cases e
  | .func fn a b, v, e => by
    cases fn with
    | yield i => simp [absV] at e
    | _ =>
      simp only [absV] at e
      split at e
      · rename_i y z hy hz
        simp at e; subst e
        simp [AV.γ, absA_spec η a y hy, absA_spec η b z hz]
      · cases e
theorem absA_spec (η : Env) : ∀ (x : Array Value) (v : List AV), absA x = some v → γs η v = some x.toList
  | ⟨l⟩, v, e => by simp only [absA] at e; exact absL_spec η l v e
theorem absL_spec (η : Env) : ∀ (x : List Value) (v : List AV), absL x = some v → γs η v = some x
  | [], v, e => by simp [absL] at e; subst e; simp [γs]
  | x :: r, v, e => by
    simp only [absL] at e
    split at e
    · rename_i y z hy hz
      simp at e; subst e
      exact γs_cons_mk (absV_spec η x y hy) (absL_spec η r z hz)
    · cases e
end

/-- one cell's value stands for one -/
theorem one_γ {η : Env} {v : AV} {x : Value} (h : v.γ η = some x) (ho : v.one = true) : (∀ l, x ≠ .agg l) ∧ (∀ l, x ≠ .tuple l) := by
  cases v with
  | agg l => simp [AV.one] at ho
  | tuple l => simp [AV.one] at ho
  | atom i =>
    simp only [AV.γ] at h
    split at h
    · cases h
    · cases h
    · rename_i h1 h2
      simp at h; subst h
      exact ⟨h1, h2⟩
  | func fn a b =>
    cases fn with
    | yield i => simp [AV.γ] at h
    | _ =>
      simp only [AV.γ] at h
      split at h
      · simp at h; subst h; simp
      · cases h
  | slice i o l c =>
    simp only [AV.γ] at h
    split at h
    · simp at h; obtain ⟨_, _, _, rfl⟩ := h; simp
    · cases h
  | slicex i o l c m =>
    simp only [AV.γ] at h
    split at h
    · split at h
      · simp at h; subst h; simp
      · cases h
    · cases h
  | ptr i o => simp [AV.γ] at h; obtain ⟨_, _, _, rfl⟩ := h; simp
  | map i => simp [AV.γ] at h; obtain ⟨_, _, rfl⟩ := h; simp
  | yield i => simp [AV.γ] at h; obtain ⟨_, _, rfl⟩ := h; simp
  | iface t v => simp [AV.γ] at h; obtain ⟨_, _, rfl⟩ := h; simp
  | _ => simp [AV.γ] at h; subst h; simp

/-! Memory. -/
mutual
def defγ (η : Env) : ADef → Option Deferred
  | ⟨.fn (.yield _) _, _⟩ => none
  | ⟨.fn fn cap, args⟩ => match γs η cap, γs η args with
    | some c, some a => some { target := .fn fn c.toArray, args := a.toArray }
    | _, _ => none
  | ⟨.yield i, args⟩ => match η.ρ i, γs η args with
    | some p, some a => some { target := .fn (.yield p.1) #[], args := a.toArray }
    | _, _ => none
  | ⟨.builtin b ts t cs, args⟩ => match γs η args with
    | some a => some { target := .builtin b ts t cs, args := a.toArray }
    | none => none
  | ⟨.collected i, args⟩ => match η.ρ i, γs η args with
    | some p, some a => some { target := .collected p.1, args := a.toArray }
    | _, _ => none
def defsγ (η : Env) : List ADef → Option (List Deferred)
  | [] => some []
  | d :: r => match defγ η d, defsγ η r with
    | some x, some l => some (x :: l)
    | _, _ => none
end
def entγ (η : Env) (e : AEnt) : Option MapEntry := match e.key.γ η, e.val.γ η with
  | some k, some v => some ⟨k, v, e.born⟩
  | _, _ => none
def entsγ (η : Env) : List AEnt → Option (List MapEntry)
  | [] => some []
  | e :: r => match entγ η e, entsγ η r with
    | some x, some l => some (x :: l)
    | _, _ => none

/-- what is known of temporaries holds of them -/
structure TRel (η : Env) (T : Tr AV) (nt : Nat) (tmps : Array Value) : Prop where
  size : tmps.size = nt
  at_ : ∀ i v, Tr.look T i = some v → ∃ x, v.γ η = some x ∧ tmps[i]? = some x
theorem TRel.mono {a b : Env} (h : a.le b) {T : Tr AV} {nt : Nat} {tmps : Array Value} (r : TRel a T nt tmps) : TRel b T nt tmps :=
  ⟨r.size, fun i v e => let ⟨x, hx, he⟩ := r.at_ i v e; ⟨x, γ_mono h v x hx, he⟩⟩
def loopγ (η : Env) (l : ALoop) (x : Loop) : Prop :=
  x.state = l.state ∧ x.pending = l.pending ∧ x.fn = l.fn ∧ x.params = l.params ∧ x.assign = l.assign ∧ x.body = l.body ∧ TRel η l.tmps l.nt x.tmps ∧ ∃ p, η.ρ l.defers = some p ∧ x.defers = p.1

/-- a block holds an object -/
def Holds (η : Env) (w : World) (i : Nat) (p : Nat × Nat) : AObj → Prop
  | .cells vs ext plain => ∃ cs el fr, w.heap[p.1]? = some (.cells cs el fr) ∧ (plain = true → fr = (0, 0)) ∧ (∀ j, j < cs.size → ¬ (fr.1 ≤ j ∧ j < fr.2)) ∧
      (∀ j v, vs[j]? = some v → v.one = true ∧ ∃ x, v.γ η = some x ∧ cs[p.2 + j]? = some x) ∧ (ext ≠ 0 → ∃ c, η.κ i = some c ∧ p.2 + c * ext ≤ cs.size)
  | .map es cl => p.2 = 0 ∧ ∃ l, entsγ η es = some l ∧ w.heap[p.1]? = some (.map l.toArray cl)
  | .stringIter s pos => p.2 = 0 ∧ w.heap[p.1]? = some (.stringIter ⟨(s.map UInt8.ofNat).toArray⟩ pos)
  | .mapIter none since seen st => p.2 = 0 ∧ w.heap[p.1]? = some (.mapIter none since seen.toArray st)
  | .mapIter (some m) since seen st => p.2 = 0 ∧ ∃ q, η.ρ m = some q ∧ w.heap[p.1]? = some (.mapIter (some q.1) since seen.toArray st)
  | .loop l => p.2 = 0 ∧ ∃ x, loopγ η l x ∧ w.heap[p.1]? = some (.loop x)
  | .deferred none => p.2 = 0 ∧ w.heap[p.1]? = some (.deferred none)
  | .deferred (some ds) => p.2 = 0 ∧ ∃ l, defsγ η ds = some l ∧ w.heap[p.1]? = some (.deferred (some l))
  | .glob b t h o => p.1 = b ∧ ∃ cs el fr, w.heap[p.1]? = some (.cells cs el fr) ∧ cs[0]? = some (.iface t (.agg #[.pointer (some ⟨h, o, none⟩)]))
end Go.Proofs.YthidihigidchgaaGreatDoor.Sy

namespace Go.Proofs.YthidihigidchgaaGreatDoor.Sy

theorem defγ_mono {a b : Env} (h : a.le b) (d : ADef) (x : Deferred) (e : defγ a d = some x) : defγ b d = some x := by
  obtain ⟨t, args⟩ := d
  cases t with
  | fn fn cap =>
    cases fn with
    | yield i => simp [defγ] at e
    | _ =>
      simp only [defγ] at e ⊢
      split at e
      · rename_i y z hy hz
        rw [γs_mono h _ y hy, γs_mono h _ z hz]; exact e
      · cases e
  | yield i =>
    simp only [defγ] at e ⊢
    split at e
    · rename_i y z hy hz
      rw [h.ρ i y hy, γs_mono h _ z hz]; exact e
    · cases e
  | builtin b ts t cs =>
    simp only [defγ] at e ⊢
    split at e
    · rename_i z hz
      rw [γs_mono h _ z hz]; exact e
    · cases e
  | collected i =>
    simp only [defγ] at e ⊢
    split at e
    · rename_i y z hy hz
      rw [h.ρ i y hy, γs_mono h _ z hz]; exact e
    · cases e
theorem defsγ_mono {a b : Env} (h : a.le b) : ∀ (l : List ADef) (x : List Deferred), defsγ a l = some x → defsγ b l = some x
  | [], x, e => by simpa [defsγ] using e
  | d :: r, x, e => by
    simp only [defsγ] at e ⊢
    split at e
    · rename_i y z hy hz
      rw [defγ_mono h d y hy, defsγ_mono h r z hz]; exact e
    · cases e
theorem entγ_mono {a b : Env} (h : a.le b) (d : AEnt) (x : MapEntry) (e : entγ a d = some x) : entγ b d = some x := by
  simp only [entγ] at e ⊢
  split at e
  · rename_i y z hy hz
    rw [γ_mono h _ y hy, γ_mono h _ z hz]; exact e
  · cases e
theorem entsγ_mono {a b : Env} (h : a.le b) : ∀ (l : List AEnt) (x : List MapEntry), entsγ a l = some x → entsγ b l = some x
  | [], x, e => by simpa [entsγ] using e
  | d :: r, x, e => by
    simp only [entsγ] at e ⊢
    split at e
    · rename_i y z hy hz
      rw [entγ_mono h d y hy, entsγ_mono h r z hz]; exact e
    · cases e
theorem loopγ_mono {a b : Env} (h : a.le b) {l : ALoop} {x : Loop} (e : loopγ a l x) : loopγ b l x := by
  obtain ⟨h1, h2, h3, h4, h5, h6, h7, p, h8, h9⟩ := e
  exact ⟨h1, h2, h3, h4, h5, h6, h7.mono h, p, h.ρ _ p h8, h9⟩

theorem Holds.mono {a b : Env} (h : a.le b) {w w' : World} {i : Nat} {p : Nat × Nat} (hw : w'.heap[p.1]? = w.heap[p.1]?) {o : AObj} (e : Holds a w i p o) : Holds b w' i p o := by
  cases o with
  | cells vs ext plain =>
    obtain ⟨cs, el, fr, h1, h2, h3, h4, h5⟩ := e
    refine ⟨cs, el, fr, hw.trans h1, h2, h3, fun j v hv => ?_, fun hx => ?_⟩
    · obtain ⟨ho, x, hx, hc⟩ := h4 j v hv
      exact ⟨ho, x, γ_mono h v x hx, hc⟩
    · obtain ⟨c, hc, hs⟩ := h5 hx
      exact ⟨c, h.κ i c hc, hs⟩
  | map es cl =>
    obtain ⟨h0, l, h1, h2⟩ := e
    exact ⟨h0, l, entsγ_mono h _ _ h1, hw.trans h2⟩
  | stringIter s pos => exact ⟨e.1, hw.trans e.2⟩
  | mapIter m since seen st =>
    cases m with
    | none => exact ⟨e.1, hw.trans e.2⟩
    | some m =>
      obtain ⟨h0, q, h1, h2⟩ := e
      exact ⟨h0, q, h.ρ _ _ h1, hw.trans h2⟩
  | loop l =>
    obtain ⟨h0, x, h1, h2⟩ := e
    exact ⟨h0, x, loopγ_mono h h1, hw.trans h2⟩
  | deferred ds =>
    cases ds with
    | none => exact ⟨e.1, hw.trans e.2⟩
    | some ds =>
      obtain ⟨h0, q, h1, h2⟩ := e
      exact ⟨h0, q, defsγ_mono h _ _ h1, hw.trans h2⟩
  | glob b t h o =>
    obtain ⟨h0, cs, el, fr, h1, h2⟩ := e
    exact ⟨h0, cs, el, fr, hw.trans h1, h2⟩
theorem Holds.lt {η : Env} {w : World} {i : Nat} {p : Nat × Nat} {o : AObj} (e : Holds η w i p o) : p.1 < w.heap.size := by
  have key : ∀ x, w.heap[p.1]? = some x → p.1 < w.heap.size := fun x hx => by
    rcases Nat.lt_or_ge p.1 w.heap.size with h | h
    · exact h
    · rw [Array.getElem?_eq_none h] at hx; cases hx
  cases o with
  | cells vs ext plain => obtain ⟨cs, el, fr, h1, -⟩ := e; exact key _ h1
  | map es cl => obtain ⟨_, l, _, h⟩ := e; exact key _ h
  | stringIter s pos => exact key _ e.2
  | mapIter m since seen st =>
    cases m with
    | none => exact key _ e.2
    | some m => obtain ⟨_, _, _, h⟩ := e; exact key _ h
  | loop l => obtain ⟨_, x, _, h⟩ := e; exact key _ h
  | deferred ds =>
    cases ds with
    | none => exact key _ e.2
    | some ds => obtain ⟨_, x, _, h⟩ := e; exact key _ h
  | glob b t h o => obtain ⟨_, cs, el, fr, h, _⟩ := e; exact key _ h

structure Mem (η : Env) (H : AH) (w : World) : Prop where
  objs : ∀ i o, Tr.look H i = some o → ∃ p, η.ρ i = some p ∧ Holds η w i p o
  inj : ∀ i j oi oj pi pj, Tr.look H i = some oi → Tr.look H j = some oj → η.ρ i = some pi → η.ρ j = some pj → pi.1 = pj.1 → i = j
def Owned (η : Env) (H : AH) (b : Nat) : Prop := ∃ i o p, Tr.look H i = some o ∧ η.ρ i = some p ∧ p.1 = b
/-- is a block ours to write? -/
def AObj.own : AObj → Bool
  | .glob .. => false
  | _ => true
def Mine (η : Env) (H : AH) (b : Nat) : Prop := ∃ i o p, Tr.look H i = some o ∧ o.own = true ∧ η.ρ i = some p ∧ p.1 = b
/-- none of the names from N on, up to N', is given yet -/
def Fresh (η : Env) (N N' : Nat) : Prop := ∀ i, N ≤ i → i < N' → η.ρ i = none ∧ η.κ i = none

/-- what a run leaves alone: the system, the output, which bytes are frozen -/
structure Like (w w' : World) : Prop where
  os : w'.os = w.os ∧ w'.tape = w.tape
  output : w'.output = w.output
  size : w.heap.size ≤ w'.heap.size
  frozen : ∀ a, a.block < w.heap.size → w'.frozen? a = w.frozen? a
theorem Like.refl (w : World) : Like w w := ⟨⟨rfl, rfl⟩, rfl, Nat.le_refl _, fun _ _ => rfl⟩
theorem Like.trans {a b c : World} (h : Like a b) (h' : Like b c) : Like a c :=
  ⟨⟨h'.os.1.trans h.os.1, h'.os.2.trans h.os.2⟩, h'.output.trans h.output, Nat.le_trans h.size h'.size, fun x hx => (h'.frozen x (Nat.lt_of_lt_of_le hx h.size)).trans (h.frozen x hx)⟩
def frOf : Obj → Nat × Nat
  | .cells _ _ fr => fr
  | _ => (0, 0)
def frzAt (off : Nat) (o : Option Obj) : Bool := match o with
  | some o => decide ((frOf o).1 ≤ off) && decide (off < (frOf o).2)
  | none => false
theorem frozen_eq (w : World) (a : Addr) : w.frozen? a = frzAt a.off w.heap[a.block]? := by
  unfold World.frozen? frzAt
  cases h : w.heap[a.block]? with
  | none => rfl
  | some o =>
    cases o with
    | cells c e fr =>
      obtain ⟨lo, hi⟩ := fr
      rfl
    | _ => simp [frOf]
theorem Like.push {w w' : World} {o : Obj} (h1 : w'.os = w.os ∧ w'.tape = w.tape) (h2 : w'.output = w.output) (hw : w'.heap = w.heap.push o) : Like w w' := ⟨h1, h2, by rw [hw]; simp, fun a ha => by
  rw [frozen_eq, frozen_eq, hw, Array.getElem?_push]
  by_cases e : a.block = w.heap.size
  · omega
  · rw [if_neg e]⟩
theorem Like.set {w w' : World} {g : Nat} {x : Obj} (h1 : w'.os = w.os ∧ w'.tape = w.tape) (h2 : w'.output = w.output) (hw : w'.heap = w.heap.setIfInBounds g x) (hx : ∀ y, w.heap[g]? = some y → frOf x = frOf y) : Like w w' := ⟨h1, h2, by rw [hw]; simp, fun a _ => by
  rw [frozen_eq, frozen_eq, hw, Array.getElem?_setIfInBounds]
  by_cases e : g = a.block
  · rw [if_pos e, ← e]
    by_cases hlt : g < w.heap.size
    · have hs : w.heap[g]? = some w.heap[g] := Array.getElem?_eq_getElem hlt
      rw [if_pos hlt, hs]
      simp only [frzAt, hx _ hs]
    · rw [if_neg hlt, Array.getElem?_eq_none (by omega)]
  · rw [if_neg e]⟩
/-- what has become of a memory and of the names -/
structure Evo (η : Env) (H : AH) (N : Nat) (w : World) (η' : Env) (H' : AH) (N' : Nat) (w' : World) : Prop where
  le : η.le η'
  out : ∀ i, i < N ∨ N' ≤ i → η'.ρ i = η.ρ i ∧ η'.κ i = η.κ i
  nn : N ≤ N'
  mem : Mem η' H' w'
  size : w.heap.size ≤ w'.heap.size
  keep : ∀ b, b < w.heap.size → ¬ Mine η H b → w'.heap[b]? = w.heap[b]?
  own : ∀ b, Owned η' H' b → Owned η H b ∨ w.heap.size ≤ b
  mine : ∀ b, Mine η' H' b → Mine η H b ∨ w.heap.size ≤ b
  like : Like w w'

theorem Evo.refl {η : Env} {H : AH} {N : Nat} {w : World} (h : Mem η H w) : Evo η H N w η H N w :=
  ⟨.refl η, fun _ _ => ⟨rfl, rfl⟩, Nat.le_refl _, h, Nat.le_refl _, fun _ _ _ => rfl, fun _ h => .inl h, fun _ h => .inl h, .refl w⟩
theorem Evo.trans {η η1 η2 : Env} {H H1 H2 : AH} {N N1 N2 : Nat} {w w1 w2 : World} (a : Evo η H N w η1 H1 N1 w1) (b : Evo η1 H1 N1 w1 η2 H2 N2 w2) : Evo η H N w η2 H2 N2 w2 where
  le := a.le.trans b.le
  out i h := by
    have h1 : i < N ∨ N1 ≤ i := h.imp id fun h => Nat.le_trans b.nn h
    have h2 : i < N1 ∨ N2 ≤ i := h.imp (fun h => Nat.lt_of_lt_of_le h a.nn) id
    exact ⟨(b.out i h2).1.trans (a.out i h1).1, (b.out i h2).2.trans (a.out i h1).2⟩
  nn := Nat.le_trans a.nn b.nn
  mem := b.mem
  size := Nat.le_trans a.size b.size
  keep c hc hn := by
    have h1 : ¬ Mine η1 H1 c := fun h => (a.mine c h).elim hn fun h => absurd hc (Nat.not_lt.2 h)
    exact (b.keep c (Nat.lt_of_lt_of_le hc a.size) h1).trans (a.keep c hc hn)
  own c h := by
    rcases b.own c h with h | h
    · exact a.own c h
    · exact .inr (Nat.le_trans a.size h)
  mine c h := by
    rcases b.mine c h with h | h
    · exact a.mine c h
    · exact .inr (Nat.le_trans a.size h)
  like := a.like.trans b.like
theorem Evo.fresh {η η1 : Env} {H H1 : AH} {N N1 : Nat} {w w1 : World} (a : Evo η H N w η1 H1 N1 w1) {N2 : Nat} (h : Fresh η N N2) : Fresh η1 N1 N2 := fun i h1 h2 => by
  have := a.out i (.inr h1)
  rw [this.1, this.2]
  exact h i (Nat.le_trans a.nn h1) h2
theorem Fresh.sub {η : Env} {N N1 N2 N3 : Nat} (h : Fresh η N N3) (h1 : N ≤ N1) (h2 : N2 ≤ N3) : Fresh η N1 N2 := fun i a b => h i (Nat.le_trans h1 a) (Nat.lt_of_lt_of_le b h2)
/-- the heap is as it was -/
theorem Mem.still {η : Env} {H : AH} {w w' : World} (h : Mem η H w) (hw : w'.heap = w.heap) : Mem η H w' :=
  ⟨fun i o ho => let ⟨p, hp, hh⟩ := h.objs i o ho; ⟨p, hp, hh.mono (.refl η) (by rw [hw])⟩, h.inj⟩

def Env.bind (η : Env) (N : Nat) (p : Nat × Nat) (c : Option Nat) : Env := { η with ρ := fun i => if i = N then some p else η.ρ i, κ := fun i => if i = N then c else η.κ i }
theorem Env.bind_le {η : Env} {N : Nat} {p : Nat × Nat} {c : Option Nat} (h : η.ρ N = none ∧ η.κ N = none) : η.le (η.bind N p c) where
  ρ i q e := by
    have : i ≠ N := fun hi => by rw [hi, h.1] at e; cases e
    simp [Env.bind, this, e]
  κ i q e := by
    have : i ≠ N := fun hi => by rw [hi, h.2] at e; cases e
    simp [Env.bind, this, e]
  at_ := rfl
theorem Env.bind_ρ (η : Env) (N : Nat) (p : Nat × Nat) (c : Option Nat) : (η.bind N p c).ρ N = some p := by simp [Env.bind]
theorem Env.bind_κ (η : Env) (N : Nat) (p : Nat × Nat) (c : Option Nat) : (η.bind N p c).κ N = c := by simp [Env.bind]
theorem Env.bind_ne {η : Env} {N : Nat} {p : Nat × Nat} {c : Option Nat} {i : Nat} (h : i ≠ N) : (η.bind N p c).ρ i = η.ρ i ∧ (η.bind N p c).κ i = η.κ i := by simp [Env.bind, h]

/-- one name is given to a block; another one may be forgotten; other blocks are as they were -/
theorem Evo.give {η : Env} {H H' : AH} {N : Nat} {w w' : World} (hm : Mem η H w) (hf : Fresh η N (N + 1)) (p : Nat × Nat) (c : Option Nat) (ob : AObj)
    (gone : Nat → Prop) (hH : ∀ q o, Tr.look H' q = some o → (q = N ∧ o = ob) ∨ (q ≠ N ∧ ¬ gone q ∧ Tr.look H q = some o))
    (hp : (∃ i o pi, gone i ∧ Tr.look H i = some o ∧ o.own = true ∧ η.ρ i = some pi ∧ pi.1 = p.1) ∨ w.heap.size ≤ p.1)
    (hsz : w.heap.size ≤ w'.heap.size) (hk : ∀ b, b < w.heap.size → b ≠ p.1 → w'.heap[b]? = w.heap[b]?)
    (hold : Holds (η.bind N p c) w' N p ob) (hlike : Like w w') : Evo η H N w (η.bind N p c) H' (N + 1) w' := by
  have hfN := hf N (Nat.le_refl _) (Nat.lt_succ_self _)
  have apart : ∀ q o pq, Tr.look H q = some o → ¬ gone q → η.ρ q = some pq → pq.1 ≠ p.1 := by
    intro q o pq hq hg hpq he
    rcases hp with ⟨i, oi, pi, hgi, hi, _, hpi, hb⟩ | hb
    · have := hm.inj q i o oi pq pi hq hi hpq hpi (he.trans hb.symm)
      exact hg (this ▸ hgi)
    · obtain ⟨p', hp', hh⟩ := hm.objs q o hq
      rw [hpq] at hp'; cases hp'
      have := hh.lt
      omega
  have old : ∀ q o, q ≠ N → ¬ gone q → Tr.look H q = some o → ∃ pq, η.ρ q = some pq ∧ pq.1 ≠ p.1 ∧ Holds (η.bind N p c) w' q pq o := by
    intro q o hqN hg hq
    obtain ⟨pq, hpq, hh⟩ := hm.objs q o hq
    have hne := apart q o pq hq hg hpq
    exact ⟨pq, hpq, hne, hh.mono (Env.bind_le hfN) (hk _ hh.lt hne)⟩
  refine ⟨Env.bind_le hfN, fun i hi => Env.bind_ne (by omega), Nat.le_succ _, ⟨?_, ?_⟩, hsz, ?_, ?_, ?_, hlike⟩
  · intro i o hi
    rcases hH i o hi with ⟨rfl, rfl⟩ | ⟨hne, hg, hl⟩
    · exact ⟨p, Env.bind_ρ .., hold⟩
    · obtain ⟨pq, hpq, _, hh⟩ := old i o hne hg hl
      exact ⟨pq, (Env.bind_ne hne).1.trans hpq, hh⟩
  · intro i j oi oj pi pj hi hj hpi hpj he
    rcases hH i oi hi with ⟨rfl, rfl⟩ | ⟨hne, hg, hl⟩ <;> rcases hH j oj hj with ⟨rfl, rfl⟩ | ⟨hne', hg', hl'⟩
    · rfl
    · obtain ⟨pq, hpq, hn, _⟩ := old j oj hne' hg' hl'
      rw [(Env.bind_ne hne').1, hpq] at hpj; cases hpj
      rw [Env.bind_ρ] at hpi; cases hpi
      exact absurd he.symm hn
    · obtain ⟨pq, hpq, hn, _⟩ := old i oi hne hg hl
      rw [(Env.bind_ne hne).1, hpq] at hpi; cases hpi
      rw [Env.bind_ρ] at hpj; cases hpj
      exact absurd he hn
    · rw [(Env.bind_ne hne).1] at hpi
      rw [(Env.bind_ne hne').1] at hpj
      exact hm.inj i j oi oj pi pj hl hl' hpi hpj he
  · intro b hb hn
    refine hk b hb fun he => ?_
    rcases hp with ⟨i, o, pi, _, hi, hoo, hpi, hbi⟩ | hbp
    · exact hn ⟨i, o, pi, hi, hoo, hpi, hbi.trans he.symm⟩
    · omega
  · rintro b ⟨i, o, q, hi, hq, rfl⟩
    rcases hH i o hi with ⟨rfl, rfl⟩ | ⟨hne, hg, hl⟩
    · rw [Env.bind_ρ] at hq; cases hq
      rcases hp with ⟨i, o, pi, _, hi, _, hpi, hbi⟩ | hbp
      · exact .inl ⟨i, o, pi, hi, hpi, hbi⟩
      · exact .inr hbp
    · rw [(Env.bind_ne hne).1] at hq
      exact .inl ⟨i, o, q, hl, hq, rfl⟩
  · rintro b ⟨i, o, q, hi, ho, hq, rfl⟩
    rcases hH i o hi with ⟨rfl, rfl⟩ | ⟨hne, hg, hl⟩
    · rw [Env.bind_ρ] at hq; cases hq
      rcases hp with ⟨i, o, pi, _, hi, hoo, hpi, hbi⟩ | hbp
      · exact .inl ⟨i, o, pi, hi, hoo, hpi, hbi⟩
      · exact .inr hbp
    · rw [(Env.bind_ne hne).1] at hq
      exact .inl ⟨i, o, q, hl, ho, hq, rfl⟩

/-- a new block -/
theorem Evo.alloc {η : Env} {H H' : AH} {N : Nat} {w w' : World} (hm : Mem η H w) (hf : Fresh η N (N + 1)) (c : Option Nat) (ob : AObj) (o : Obj)
    (hH : ∀ q, Tr.look H' q = if q = N then some ob else Tr.look H q) (hw : w'.heap = w.heap.push o)
    (hold : Holds (η.bind N (w.heap.size, 0) c) w' N (w.heap.size, 0) ob) (hos : w'.os = w.os ∧ w'.tape = w.tape := by exact ⟨rfl, rfl⟩) (hout : w'.output = w.output := by rfl) (hfr : frOf o = (0, 0) := by rfl) : Evo η H N w (η.bind N (w.heap.size, 0) c) H' (N + 1) w' :=
  Evo.give hm hf _ c ob (fun _ => False)
    (fun q o hq => by
      rw [hH] at hq
      split at hq
      · rename_i e; cases hq; exact .inl ⟨e, rfl⟩
      · rename_i e; exact .inr ⟨e, id, hq⟩)
    (.inr (Nat.le_refl _)) (by rw [hw]; simp) (fun b hb hne => by rw [hw, Array.getElem?_push]; simp at hne; simp [hne]) hold (.push hos hout hw)
/-- a block of its own is written -/
theorem Evo.write {η : Env} {H H' : AH} {N : Nat} {w w' : World} (hm : Mem η H w) {i : Nat} {p : Nat × Nat} {o ob : AObj} (hi : Tr.look H i = some o) (hp : η.ρ i = some p) (x : Obj)
    (hH : ∀ q, Tr.look H' q = if q = i then some ob else Tr.look H q) (hw : w'.heap = w.heap.setIfInBounds p.1 x) (hold : Holds η w' i p ob) (hfr : ∀ y, w.heap[p.1]? = some y → frOf x = frOf y) (hos : w'.os = w.os ∧ w'.tape = w.tape := by exact ⟨rfl, rfl⟩) (hout : w'.output = w.output := by rfl) (hown : o.own = true := by rfl) : Evo η H N w η H' N w' := by
  have hk : ∀ b, b ≠ p.1 → w'.heap[b]? = w.heap[b]? := fun b hb => by rw [hw, Array.getElem?_setIfInBounds_ne (fun h => hb h.symm)]
  have other : ∀ q oq pq, q ≠ i → Tr.look H q = some oq → η.ρ q = some pq → pq.1 ≠ p.1 := fun q oq pq hq hl hpq he => hq (hm.inj q i oq o pq p hl hi hpq hp he)
  refine ⟨.refl η, fun _ _ => ⟨rfl, rfl⟩, Nat.le_refl _, ⟨?_, ?_⟩, by rw [hw]; simp, ?_, ?_, ?_, .set hos hout hw hfr⟩
  · intro q oq hq
    rw [hH] at hq
    split at hq
    · rename_i e; subst e; cases hq; exact ⟨p, hp, hold⟩
    · rename_i e
      obtain ⟨pq, hpq, hh⟩ := hm.objs q oq hq
      exact ⟨pq, hpq, hh.mono (.refl η) (hk _ (other q oq pq e hq hpq))⟩
  · have back : ∀ q oq, Tr.look H' q = some oq → ∃ o', Tr.look H q = some o' := fun q oq hq => by
      rw [hH] at hq
      split at hq
      · rename_i e; subst e; exact ⟨o, hi⟩
      · exact ⟨oq, hq⟩
    intro a b oa ob' pa pb ha hb hpa hpb he
    obtain ⟨_, ha'⟩ := back a oa ha
    obtain ⟨_, hb'⟩ := back b ob' hb
    exact hm.inj a b _ _ pa pb ha' hb' hpa hpb he
  · intro b hb hn
    exact hk b fun he => hn ⟨i, o, p, hi, hown, hp, he.symm⟩
  · rintro b ⟨q, oq, pq, hq, hpq, rfl⟩
    rw [hH] at hq
    split at hq
    · rename_i e; subst e
      exact .inl ⟨q, o, pq, hi, hpq, rfl⟩
    · exact .inl ⟨q, oq, pq, hq, hpq, rfl⟩
  · rintro b ⟨q, oq, pq, hq, hoq, hpq, rfl⟩
    rw [hH] at hq
    split at hq
    · rename_i e; subst e
      exact .inl ⟨q, o, pq, hi, hown, hpq, rfl⟩
    · exact .inl ⟨q, oq, pq, hq, hoq, hpq, rfl⟩
/-- names are forgotten -/
theorem Mem.less {η : Env} {H H' : AH} {w : World} (hm : Mem η H w) (hH : ∀ q o, Tr.look H' q = some o → Tr.look H q = some o) : Mem η H' w :=
  ⟨fun i o h => hm.objs i o (hH i o h), fun i j oi oj pi pj hi hj => hm.inj i j oi oj pi pj (hH i oi hi) (hH j oj hj)⟩
end Go.Proofs.YthidihigidchgaaGreatDoor.Sy

namespace Go.Proofs.YthidihigidchgaaGreatDoor.Sy

def aggDesc : TypeDesc → Bool
  | .struct _ => true
  | .array _ _ => true
  | _ => false
structure Cx.OK (C : Cx) (P : Program) : Prop where
  p : C.p = P
  ty : ∀ t i, Tr.look C.types t = some i → P.info? t = some i.info ∧ P.underlying t = some i.desc ∧ i.size = i.info.size ∧ i.agg = aggDesc i.desc

section
variable {C : Cx} {P : Program} (hC : C.OK P)
include hC
theorem ty_spec {t : TypeId} {k : TI → Bool} (h : C.ty t k = true) : ∃ i, k i = true ∧ P.info? t = some i.info ∧ P.underlying t = some i.desc ∧ i.size = i.info.size ∧ i.agg = aggDesc i.desc := by
  obtain ⟨i, hi, hk⟩ := Tr.get_spec h
  exact ⟨i, hk, hC.ty t i hi⟩
theorem under_spec {t : TypeId} {k : TypeDesc → Bool} (h : C.under t k = true) : ∃ d, k d = true ∧ P.underlying t = some d := by
  obtain ⟨i, hi, hk⟩ := Tr.get_spec h
  exact ⟨_, hk, (hC.ty t i hi).2.1⟩
theorem size_spec {t : TypeId} {k : Nat → Bool} (h : C.size t k = true) : ∃ n, k n = true ∧ (P.info? t).map (·.size) = some n := by
  obtain ⟨i, hi, hk⟩ := Tr.get_spec h
  have := hC.ty t i hi
  exact ⟨_, hk, by rw [this.1, this.2.2.1]; rfl⟩
theorem zero_spec {t : TypeId} {k : AV → Bool} (h : C.zero t k = true) : ∃ a v, k a = true ∧ (∀ η, a.γ η = some v) ∧ (P.info? t).map (·.zero) = some (some v) := by
  obtain ⟨i, hi, hk⟩ := Tr.get_spec h
  have := hC.ty t i hi
  split at hk
  · rename_i v hv
    split at hk
    · rename_i a ha
      rw [fz_eq] at hk
      exact ⟨a, v, hk, fun η => absV_spec η v a ha, by rw [this.1]; simp [hv]⟩
    · cases hk
  · cases hk
end

section
variable {P : Program} (w : World)
theorem run_under {t : TypeId} {d : TypeDesc} (h : P.underlying t = some d) : (underlying t).run P w = .ok d w := run_underlying h w
theorem run_typeInfo {t : TypeId} {i : TypeInfo} (h : P.info? t = some i) : (typeInfo t).run P w = .ok i w := by simp [typeInfo, h]
theorem run_sizeOf {t : TypeId} {n : Nat} (h : (P.info? t).map (·.size) = some n) : (sizeOf t).run P w = .ok n w := by
  simp only [Option.map_eq_some_iff] at h
  obtain ⟨i, hi, rfl⟩ := h
  simp [sizeOf, run_typeInfo w hi]
theorem run_zeroValue {t : TypeId} {v : Value} (h : (P.info? t).map (·.zero) = some (some v)) : (zeroValue t).run P w = .ok v w := by
  simp only [Option.map_eq_some_iff] at h
  obtain ⟨i, hi, hz⟩ := h
  simp [zeroValue, run_typeInfo w hi, hz]
theorem run_isAgg {t : TypeId} {d : TypeDesc} (h : P.underlying t = some d) : (isAgg t).run P w = .ok (aggDesc d) w := by
  simp only [isAgg, Sem.run_bind, run_under w h, Result.andThen_ok]
  cases d <;> rfl
end

/-! Lists. -/
theorem takeK_spec : ∀ (n : Nat) (l : List AV) (k : List AV → Bool), takeK n l k = true → k (l.take n) = true ∧ n ≤ l.length
  | 0, l, k, h => by
    have h : k [] = true := h
    exact ⟨by simpa using h, Nat.zero_le _⟩
  | n + 1, [], k, h => by simp [takeK] at h
  | n + 1, x :: r, k, h => by
    have h : takeK n r (fun l => k (x :: l)) = true := h
    have := takeK_spec n r _ h
    exact ⟨by simpa using this.1, by simpa using this.2⟩
theorem rdK_spec : ∀ (off : Nat) (vs : List AV) (n : Nat) (k : List AV → Bool), rdK vs off n k = true → k ((vs.drop off).take n) = true ∧ (n = 0 ∨ off + n ≤ vs.length)
  | 0, vs, n, k, h => by
    have := takeK_spec n vs k h
    exact ⟨by simpa using this.1, .inr (by simpa using this.2)⟩
  | off + 1, [], n, k, h => by
    have h : takeK n [] k = true := h
    have := takeK_spec n [] k h
    exact ⟨by simpa using this.1, .inl (by simpa using this.2)⟩
  | off + 1, x :: vs, n, k, h => by
    have h : rdK vs off n k = true := h
    have := rdK_spec off vs n k h
    exact ⟨by simpa using this.1, this.2.imp id (by simp; omega)⟩
theorem rdK_len {vs : List AV} {off n : Nat} (h : n = 0 ∨ off + n ≤ vs.length) : ((vs.drop off).take n).length = n := by
  rcases h with rfl | h
  · simp
  · simp; omega
theorem rd1_spec : ∀ (off : Nat) (vs : List AV) (k : AV → Bool), rd1 vs off k = true → ∃ v, vs[off]? = some v ∧ k v = true
  | 0, [], k, h => by simp [rd1] at h
  | 0, x :: vs, k, h => ⟨x, rfl, h⟩
  | off + 1, [], k, h => by simp [rd1] at h
  | off + 1, x :: vs, k, h => by
    have h : rd1 vs off k = true := h
    obtain ⟨v, hv, hk⟩ := rd1_spec off vs k h
    exact ⟨v, by simpa using hv, hk⟩
/-- a list with another one laid over a part of it -/
def Laid {α : Type} (off : Nat) (vs xs l : List α) : Prop := l.length = vs.length ∧ off + xs.length ≤ vs.length ∧ ∀ j, l[j]? = if off ≤ j ∧ j < off + xs.length then xs[j - off]? else vs[j]?
theorem layK_spec : ∀ (xs vs : List AV) (k : List AV → Bool), layK vs xs k = true → ∃ l, k l = true ∧ Laid 0 vs xs l ∧ ∀ x ∈ xs, x.one = true
  | [], vs, k, h => ⟨vs, h, ⟨rfl, by simp, fun j => by simp⟩, by simp⟩
  | x :: xs, [], k, h => by simp [layK] at h
  | x :: xs, v :: vs, k, h => by
    have h : Bool.rec (motive := fun _ => Bool) false (layK vs xs fun l => k (x :: l)) x.one = true := h
    cases ho : x.one with
    | false => rw [ho] at h; cases h
    | true =>
      rw [ho] at h
      have h : layK vs xs (fun l => k (x :: l)) = true := h
      obtain ⟨l, hl, ⟨h1, h2, h3⟩, h4⟩ := layK_spec xs vs _ h
      refine ⟨x :: l, hl, ⟨by simp [h1], by simp at h2 ⊢; omega, fun j => ?_⟩, by simpa [ho] using h4⟩
      cases j with
      | zero => simp
      | succ j =>
        simp only [List.getElem?_cons_succ, h3]
        by_cases hj : j < xs.length
        · rw [if_pos (by omega), if_pos (by simp; omega)]; simp
        · rw [if_neg (by omega), if_neg (by simp; omega)]
theorem wrK_spec : ∀ (off : Nat) (vs xs : List AV) (k : List AV → Bool), wrK off vs xs k = true → ∃ l, k l = true ∧ Laid off vs xs l ∧ ∀ x ∈ xs, x.one = true
  | 0, vs, xs, k, h => layK_spec xs vs k h
  | off + 1, [], xs, k, h => by simp [wrK] at h
  | off + 1, v :: vs, xs, k, h => by
    have h : wrK off vs xs (fun l => k (v :: l)) = true := h
    obtain ⟨l, hl, ⟨h1, h2, h3⟩, h4⟩ := wrK_spec off vs xs _ h
    refine ⟨v :: l, hl, ⟨by simp [h1], by simp; omega, fun j => ?_⟩, h4⟩
    cases j with
    | zero => simp
    | succ j =>
      simp only [List.getElem?_cons_succ, h3]
      by_cases hj : off ≤ j ∧ j < off + xs.length
      · rw [if_pos hj, if_pos (by omega)]; congr 1; omega
      · rw [if_neg hj, if_neg (by omega)]
theorem Laid.γ {η : Env} {off : Nat} {vs xs l : List AV} {a b : List Value} (h : Laid off vs xs l) (ha : γs η vs = some a) (hb : γs η xs = some b) : ∃ c, γs η l = some c ∧ Laid off a b c := by
  obtain ⟨h1, h2, h3⟩ := h
  have la := γs_length ha
  have lb := γs_length hb
  refine ⟨a.take off ++ b ++ a.drop (off + b.length), ?_, ?_⟩
  · have key : ∀ j, (a.take off ++ b ++ a.drop (off + b.length))[j]? = if off ≤ j ∧ j < off + b.length then b[j - off]? else a[j]? := by
      intro j
      simp only [List.getElem?_append, List.length_take, List.length_append]
      by_cases hj : j < off
      · rw [if_pos (by omega), if_pos (by omega), if_neg (by omega)]; simp [hj]
      · by_cases hj' : j < off + b.length
        · rw [if_pos (by omega), if_neg (by omega), if_pos (by omega)]; congr 1; omega
        · rw [if_neg (by omega), if_neg (by omega), List.getElem?_drop]; congr 1; omega
    refine γs_of (by simp; omega) fun j v y hv hy => ?_
    rw [h3] at hv
    rw [key] at hy
    by_cases hj : off ≤ j ∧ j < off + xs.length
    · rw [if_pos hj] at hv
      rw [if_pos (by omega)] at hy
      obtain ⟨z, hz, hg⟩ := γs_get hb hv
      rw [hz] at hy; cases hy; exact hg
    · rw [if_neg hj] at hv
      rw [if_neg (by omega)] at hy
      obtain ⟨z, hz, hg⟩ := γs_get ha hv
      rw [hz] at hy; cases hy; exact hg
  · refine ⟨by simp; omega, by omega, fun j => ?_⟩
    simp only [List.getElem?_append, List.length_take, List.length_append]
    by_cases hj : j < off
    · rw [if_pos (by omega), if_pos (by omega), if_neg (by omega)]; simp [hj]
    · by_cases hj' : j < off + b.length
      · rw [if_pos (by omega), if_neg (by omega), if_pos (by omega)]; congr 1; omega
      · rw [if_neg (by omega), if_neg (by omega), List.getElem?_drop]; congr 1; omega
theorem catK_eq : ∀ (xs ys : List AV) (k : List AV → Bool), catK xs ys k = k (xs ++ ys)
  | [], _, _ => rfl
  | x :: xs, ys, k => by
    show catK xs ys (fun l => k (x :: l)) = _
    rw [catK_eq]; rfl
theorem allOne_spec : ∀ (l : List AV), allOne l = true → ∀ x ∈ l, x.one = true
  | [], _ => by simp
  | x :: l, h => by
    have h : Bool.rec (motive := fun _ => Bool) false (allOne l) x.one = true := h
    cases ho : x.one with
    | false => rw [ho] at h; cases h
    | true => rw [ho] at h; simpa [ho] using allOne_spec l h
theorem lenL_eq : ∀ (l : List AV) (n : Nat) (k : Nat → Bool), lenL l n k = k (n + l.length)
  | [], _, _ => rfl
  | x :: l, n, k => by
    show fzNat (Nat.succ n) (fun n => lenL l n k) = _
    rw [fzNat_eq, lenL_eq]
    congr 1
    simp; omega
theorem timesK_eq : ∀ (n : Nat) (zs : List AV) (k : List AV → Bool), timesK n zs k = k (List.flatten (List.replicate n zs))
  | 0, _, _ => rfl
  | n + 1, zs, k => by
    simp only [timesK]
    rw [timesK_eq, catK_eq]
    simp [List.replicate_succ]
theorem lenN_eq : ∀ (l : List Nat) (n : Nat) (k : Nat → Bool), lenN l n k = k (n + l.length)
  | [], _, _ => rfl
  | x :: l, n, k => by
    simp only [lenN, fzNat_eq]
    rw [lenN_eq]
    congr 1
    simp; omega

/-! Cells. -/
theorem cellsOf_spec {v : AV} {k : List AV → Bool} (h : cellsOf v k = true) : ∃ xs, k xs = true ∧ ∀ η y, v.γ η = some y → ∃ ys, γs η xs = some ys ∧ y.cells = ys.toArray := by
  cases v with
  | agg cs =>
    refine ⟨cs, h, fun η y hy => ?_⟩
    simp only [AV.γ, Option.map_eq_some_iff] at hy
    obtain ⟨l, hl, rfl⟩ := hy
    exact ⟨l, hl, rfl⟩
  | tuple cs => simp [cellsOf] at h
  | _ =>
    all_goals
      refine ⟨[_], h, fun η y hy => ⟨[y], γs_cons_mk hy (γs_nil η), ?_⟩⟩
      have := (one_γ hy rfl).1
      cases y <;> first | rfl | exact absurd rfl (this _)

theorem add_addr (p : Nat × Nat) (o j : Nat) : (addr p o).add j = addr p (o + j) := by
  unfold Addr.add addr
  split
  · rename_i h; subst h; rfl
  · simp [Nat.add_assoc]
/-- cells that are known, by place -/
def Known (η : Env) (vs : List AV) (f : Nat → Option Value) : Prop := ∀ j v, vs[j]? = some v → v.one = true ∧ ∃ x, v.γ η = some x ∧ f j = some x
theorem Holds.known {η : Env} {w : World} {i : Nat} {p : Nat × Nat} {vs : List AV} {ext : Nat} {pl : Bool} (h : Holds η w i p (.cells vs ext pl)) : Known η vs fun j => w.cell? (addr p j) := by
  obtain ⟨cs, el, fr, h1, _, _, h4, _⟩ := h
  intro j v hv
  obtain ⟨ho, x, hx, hc⟩ := h4 j v hv
  exact ⟨ho, x, hx, by simp [World.cell?, addr, h1, hc]⟩
theorem Known.slice {η : Env} {vs : List AV} {f : Nat → Option Value} (h : Known η vs f) {off n : Nat} (hn : n = 0 ∨ off + n ≤ vs.length) :
    ∃ xs : List Value, γs η ((vs.drop off).take n) = some xs ∧ xs.length = n ∧ ∀ j y, xs[j]? = some y → f (off + j) = some y := by
  have hl := rdK_len hn
  have key : ∀ (l : List AV), (∀ j v, l[j]? = some v → vs[off + j]? = some v) → ∃ xs : List Value, γs η l = some xs ∧ ∀ j y, xs[j]? = some y → f (off + j) = some y := by
    intro l
    induction l generalizing off with
    | nil => exact fun _ => ⟨[], γs_nil η, by simp⟩
    | cons v l ih =>
      intro hv
      obtain ⟨_, x, hx, hf⟩ := h off v (hv 0 v rfl)
      have := @ih (off + 1)
      by_cases hnn : True
      · obtain ⟨xs, hxs, hfx⟩ : ∃ xs : List Value, γs η l = some xs ∧ ∀ j y, xs[j]? = some y → f (off + 1 + j) = some y := by
          clear this ih
          have aux : ∀ (l : List AV) (o : Nat), (∀ j v, l[j]? = some v → vs[o + j]? = some v) → ∃ xs : List Value, γs η l = some xs ∧ ∀ j y, xs[j]? = some y → f (o + j) = some y := by
            intro l
            induction l with
            | nil => exact fun _ _ => ⟨[], γs_nil η, by simp⟩
            | cons v l ih =>
              intro o hv
              obtain ⟨_, x, hx, hf⟩ := h o v (hv 0 v rfl)
              obtain ⟨xs, hxs, hfx⟩ := ih (o + 1) fun j u hu => by
                have := hv (j + 1) u (by simpa using hu)
                rwa [show o + (j + 1) = o + 1 + j from by omega] at this
              refine ⟨x :: xs, γs_cons_mk hx hxs, fun j y hy => ?_⟩
              cases j with
              | zero => simp at hy; subst hy; exact hf
              | succ j =>
                have := hfx j y (by simpa using hy)
                rwa [show o + 1 + j = o + (j + 1) from by omega] at this
          exact aux l (off + 1) fun j u hu => by
            have := hv (j + 1) u (by simpa using hu)
            rwa [show off + (j + 1) = off + 1 + j from by omega] at this
        refine ⟨x :: xs, γs_cons_mk hx hxs, fun j y hy => ?_⟩
        cases j with
        | zero => simp at hy; subst hy; exact hf
        | succ j =>
          have := hfx j y (by simpa using hy)
          rwa [show off + 1 + j = off + (j + 1) from by omega] at this
      · exact absurd trivial hnn
  obtain ⟨xs, hxs, hf⟩ := key ((vs.drop off).take n) fun j v hv => by
    rw [List.getElem?_take] at hv
    split at hv
    · rwa [List.getElem?_drop] at hv
    · cases hv
  exact ⟨xs, hxs, by rw [γs_length hxs, hl], hf⟩

section
variable {C : Cx} {P : Program} (hC : C.OK P)
include hC
/-- a part of memory is read -/
theorem loadVar_spec {t : TypeId} {vs : List AV} {o : Nat} {c : Kv} (h : partA C t vs o c = true) : ∃ v, c v = true ∧
    ∀ η w p, Known η vs (fun j => w.cell? (addr p j)) → ∃ x, v.γ η = some x ∧ (loadVar t (addr p o)).run P w = .ok x w := by
  obtain ⟨i, hi, hinf, hund, hsz, hag⟩ := ty_spec hC h
  cases ha : i.agg with
  | true =>
    rw [ha] at hi
    have hi : rdK vs o i.size (fun l => c (.agg l)) = true := hi
    obtain ⟨hk, hn⟩ := rdK_spec o vs _ _ hi
    refine ⟨_, hk, fun η w p hkn => ?_⟩
    obtain ⟨xs, hxs, hlen, hf⟩ := hkn.slice hn
    refine ⟨.agg xs.toArray, by simp [AV.γ, hxs], ?_⟩
    have hl : (loadCells (addr p o) xs.length).run P w = .ok xs.toArray w := run_loadCells_list w _ _ fun j y hy => by rw [add_addr]; exact hf j y hy
    rw [hlen] at hl
    simp [loadVar, run_isAgg w hund, ← hag, ha, run_sizeOf w (t := t) (n := i.size) (by rw [hinf, hsz]; rfl), hl]
  | false =>
    rw [ha] at hi
    have hi : rd1 vs o c = true := hi
    obtain ⟨v, hv, hk⟩ := rd1_spec o vs c hi
    refine ⟨v, hk, fun η w p hkn => ?_⟩
    obtain ⟨_, x, hx, hf⟩ := hkn o v hv
    refine ⟨x, hx, ?_⟩
    have hf : w.cell? (addr p o) = some x := hf
    simp [loadVar, run_isAgg w hund, ← hag, ha, hf]
/-- a part of an aggregate -/
theorem part_spec {t : TypeId} {vs : List AV} {o : Nat} {c : Kv} (h : partA C t vs o c = true) : ∃ v, c v = true ∧
    ∀ η xs, γs η vs = some xs → ∃ x, v.γ η = some x ∧ ∀ w, (part t xs.toArray o).run P w = .ok x w := by
  obtain ⟨i, hi, hinf, hund, hsz, hag⟩ := ty_spec hC h
  cases ha : i.agg with
  | true =>
    rw [ha] at hi
    have hi : rdK vs o i.size (fun l => c (.agg l)) = true := hi
    obtain ⟨hk, hn⟩ := rdK_spec o vs _ _ hi
    refine ⟨_, hk, fun η xs hxs => ?_⟩
    have hg : γs η ((vs.drop o).take i.size) = some ((xs.drop o).take i.size) := by
      have hl := γs_length hxs
      refine γs_of (by simp; omega) fun j v y hv hy => ?_
      rw [List.getElem?_take] at hv hy
      split at hv
      · rename_i hj
        rw [if_pos hj] at hy
        rw [List.getElem?_drop] at hv hy
        obtain ⟨z, hz, hzg⟩ := γs_get hxs hv
        rw [hz] at hy; cases hy; exact hzg
      · cases hv
    refine ⟨.agg ((xs.drop o).take i.size).toArray, by simp [AV.γ, hg], fun w => ?_⟩
    simp only [part, Sem.run_bind, run_isAgg w hund, ← hag, ha, Result.andThen_ok, if_true, run_sizeOf w (t := t) (n := i.size) (by rw [hinf, hsz]; rfl), Sem.run_pure]
    congr 2
    apply Array.ext'
    simp [List.extract_eq_take_drop]
  | false =>
    rw [ha] at hi
    have hi : rd1 vs o c = true := hi
    obtain ⟨v, hv, hk⟩ := rd1_spec o vs c hi
    refine ⟨v, hk, fun η xs hxs => ?_⟩
    obtain ⟨x, hx, hg⟩ := γs_get hxs hv
    refine ⟨x, hg, fun w => ?_⟩
    simp [part, run_isAgg w hund, ← hag, ha, hx]
end
end Go.Proofs.YthidihigidchgaaGreatDoor.Sy

namespace Go.Proofs.YthidihigidchgaaGreatDoor.Sy

/-! Numbers. -/
theorem kMod_eq (k : IntKind) : (kMod k : Int) = 2 ^ k.bits := by cases k <;> rfl
theorem kModN_eq (k : IntKind) : kMod k = 2 ^ k.bits := by cases k <;> rfl
theorem resid_eq (k : IntKind) (n : Int) : (resid k n : Int) = n % (2 ^ k.bits : Int) := by
  rw [← kMod_eq]
  have hp : 0 < kMod k := by cases k <;> decide
  cases n with
  | ofNat m => show ((m % kMod k : Nat) : Int) = _; simp
  | negSucc m =>
    show ((kMod k - 1 - m % kMod k : Nat) : Int) = _
    have hm : m % kMod k < kMod k := Nat.mod_lt _ hp
    rw [Int.negSucc_emod m (by omega)]
    have : ((m % kMod k : Nat) : Int) = (m : Int) % (kMod k : Int) := by simp
    omega
theorem resid_lt (k : IntKind) (n : Int) : resid k n < kMod k := by
  have hp : 0 < kMod k := by cases k <;> decide
  cases n with
  | ofNat m => exact Nat.mod_lt _ hp
  | negSucc m =>
    show kMod k - 1 - m % kMod k < kMod k
    omega
theorem unres_eq (k : IntKind) (r : Nat) (h : r < kMod k) : unres k r = k.wrap r := by
  have hw : k.wrap r = if k.signed && decide ((r : Int) ≥ (2 ^ (k.bits - 1) : Int)) then (r : Int) - (2 ^ k.bits : Int) else r := by
    unfold IntKind.wrap
    have : (r : Int) % (2 ^ k.bits : Int) = r := by rw [← kMod_eq]; exact Int.emod_eq_of_lt (by omega) (by omega)
    rw [this]
  rw [hw]
  unfold unres
  cases hb : Nat.ble (Nat.succ r) (kHalf k) with
  | true =>
    have hb : r + 1 ≤ kHalf k := Nat.le_of_ble_eq_true hb
    rw [if_neg]
    · rfl
    · cases k <;> simp [IntKind.signed, IntKind.bits, kHalf] at hb ⊢ <;> omega
  | false =>
    have hb : ¬ (r + 1 ≤ kHalf k) := fun h' => by rw [Nat.ble_eq_true_of_le h'] at hb; cases hb
    rw [if_pos]
    · rw [← kMod_eq]
      show Int.negSucc (kMod k - r - 1) = _
      omega
    · cases k <;> simp [IntKind.signed, IntKind.bits, kHalf, kMod] at hb h ⊢ <;> omega
theorem wrap_mod (k : IntKind) (n : Int) : k.wrap (n % (2 ^ k.bits : Int)) = k.wrap n := by
  unfold IntKind.wrap
  simp [Int.emod_emod_of_dvd]
theorem wrapA_eq (k : IntKind) (n : Int) : wrapA k n = k.wrap n := by
  unfold wrapA
  rw [unres_eq k _ (resid_lt k n), resid_eq, wrap_mod]
theorem ltI_eq (x y : Int) : ltI x y = decide (x < y) := by
  cases x <;> cases y <;> simp [ltI]
  · rename_i a b
    rw [Bool.eq_iff_iff]; simp [Nat.succ_le_iff]
  · omega
  · omega
  · rename_i a b
    rw [Bool.eq_iff_iff]; simp [Nat.succ_le_iff]; omega
theorem eqI_eq (x y : Int) : eqI x y = decide (x = y) := by
  cases x with
  | ofNat a =>
    cases y with
    | ofNat b =>
      show Nat.beq a b = _
      rw [Bool.eq_iff_iff, Nat.beq_eq]; simp only [decide_eq_true_eq]
      exact ⟨fun h => by rw [h], fun h => Int.ofNat.inj h⟩
    | negSucc b => simp [eqI]
  | negSucc a =>
    cases y with
    | ofNat b => simp [eqI]
    | negSucc b =>
      show Nat.beq a b = _
      rw [Bool.eq_iff_iff, Nat.beq_eq]; simp only [decide_eq_true_eq]
      exact ⟨fun h => by rw [h], fun h => Int.negSucc.inj h⟩
theorem kEq_spec {a b : IntKind} (h : kEq a b = true) : a = b := by cases a <;> cases b <;> simp [kEq] at h <;> rfl
theorem kEq_refl (a : IntKind) : kEq a a = true := by cases a <;> rfl
theorem fEq_spec {a b : FloatKind} (h : fEq a b = true) : a = b := by cases a <;> cases b <;> simp [fEq] at h <;> rfl
theorem isOrd_eq (o : Option Ordering) (x : Ordering) : isOrd o x = (o == some x) := by
  cases o with
  | none => cases x <;> rfl
  | some y => cases x <;> cases y <;> rfl
theorem bv_nat (k : IntKind) (n : Int) : (BitVec.ofInt k.bits n).toNat = resid k n := by
  have h := resid_eq k n
  rw [BitVec.toNat_ofInt]
  have : (n % (2 ^ k.bits : Nat)) = (resid k n : Int) := by rw [h]; simp
  rw [this]; simp
theorem land_lt (k : IntKind) {a b : Nat} (ha : a < kMod k) : Nat.land a b < kMod k := Nat.lt_of_le_of_lt Nat.and_le_left ha
theorem lor_lt (k : IntKind) {a b : Nat} (ha : a < kMod k) (hb : b < kMod k) : Nat.lor a b < kMod k := by
  rw [kModN_eq] at *; exact Nat.or_lt_two_pow ha hb
theorem xor_lt (k : IntKind) {a b : Nat} (ha : a < kMod k) (hb : b < kMod k) : Nat.xor a b < kMod k := by
  rw [kModN_eq] at *; exact Nat.xor_lt_two_pow ha hb

section
variable {P : Program}
/-- an operator on integers -/
theorem intOp_spec {op : BinOp} {k : IntKind} {a b : Int} {c : Kv} (hs : op ≠ .shl) (hs' : op ≠ .shr) (h : intOp op k a b c = true) : ∃ y : Value, ∃ v, c v = true ∧ (∀ η, v.γ η = some y) ∧
    ∀ t w, (binOp op t (.int k a) (.int k b)).run P w = .ok y w := by
  have retI' : ∀ {n : Int}, retI k n c = true → c (.int k n) = true := fun h => by simpa [retI] using h
  have retB' : ∀ {n : Bool}, retB n c = true → c (.bool n) = true := fun h => by simpa [retB] using h
  cases op with
  | shl => exact absurd rfl hs
  | shr => exact absurd rfl hs'
  | add => exact ⟨_, _, retI' h, fun η => rfl, fun t w => by rw [wrapA_eq]; first | (simp [binOp, Op.intArith]; done) | (simp [binOp, Op.intArith]; rfl)⟩
  | sub => exact ⟨_, _, retI' h, fun η => rfl, fun t w => by rw [wrapA_eq]; first | (simp [binOp, Op.intArith]; done) | (simp [binOp, Op.intArith]; rfl)⟩
  | mul => exact ⟨_, _, retI' h, fun η => rfl, fun t w => by rw [wrapA_eq]; first | (simp [binOp, Op.intArith]; done) | (simp [binOp, Op.intArith]; rfl)⟩
  | quo =>
    simp only [intOp] at h
    split at h
    · cases h
    · rename_i hz
      rw [eqI_eq] at hz
      have hz : b ≠ 0 := by simpa using hz
      exact ⟨_, _, retI' h, fun η => rfl, fun t w => by rw [wrapA_eq]; simp [binOp, Op.intDiv, hz]⟩
  | rem =>
    simp only [intOp] at h
    split at h
    · cases h
    · rename_i hz
      rw [eqI_eq] at hz
      have hz : b ≠ 0 := by simpa using hz
      exact ⟨_, _, retI' h, fun η => rfl, fun t w => by simp [binOp, Op.intDiv, hz]⟩
  | and =>
    refine ⟨_, _, retI' h, fun η => rfl, fun t w => ?_⟩
    rw [unres_eq _ _ (land_lt k (resid_lt k a))]
    simp only [binOp, Op.intBits, ne_eq, not_true_eq_false, if_false, BitVec.toNat_and, bv_nat]; rfl
  | or =>
    refine ⟨_, _, retI' h, fun η => rfl, fun t w => ?_⟩
    rw [unres_eq _ _ (lor_lt k (resid_lt k a) (resid_lt k b))]
    simp only [binOp, Op.intBits, ne_eq, not_true_eq_false, if_false, BitVec.toNat_or, bv_nat]; rfl
  | xor =>
    refine ⟨_, _, retI' h, fun η => rfl, fun t w => ?_⟩
    rw [unres_eq _ _ (xor_lt k (resid_lt k a) (resid_lt k b))]
    simp only [binOp, Op.intBits, ne_eq, not_true_eq_false, if_false, BitVec.toNat_xor, bv_nat]; rfl
  | andNot =>
    refine ⟨_, _, retI' h, fun η => rfl, fun t w => ?_⟩
    rw [unres_eq _ _ (land_lt k (resid_lt k a))]
    simp only [binOp, Op.intBits, ne_eq, not_true_eq_false, if_false, BitVec.toNat_and, BitVec.toNat_not, bv_nat]
    rw [← kModN_eq]; rfl
  | eql => exact ⟨_, _, retB' h, fun η => rfl, fun t w => by rw [eqI_eq]; simp only [binOp, Op.intCmp, ne_eq, not_true_eq_false, if_false]; rfl⟩
  | neq => exact ⟨_, _, retB' h, fun η => rfl, fun t w => by rw [eqI_eq]; simp only [binOp, Op.intCmp, ne_eq, not_true_eq_false, if_false]; rfl⟩
  | lss => exact ⟨_, _, retB' h, fun η => rfl, fun t w => by rw [ltI_eq]; simp [binOp, Op.intCmp]⟩
  | leq => exact ⟨_, _, retB' h, fun η => rfl, fun t w => by
      have e : (!decide (b < a)) = decide (a ≤ b) := by rw [Bool.eq_iff_iff]; simp
      rw [ltI_eq]; show _ = Result.ok (Value.bool (!decide (b < a))) w; rw [e]; simp [binOp, Op.intCmp]⟩
  | gtr => exact ⟨_, _, retB' h, fun η => rfl, fun t w => by rw [ltI_eq]; simp [binOp, Op.intCmp]⟩
  | geq => exact ⟨_, _, retB' h, fun η => rfl, fun t w => by
      have e : (!decide (a < b)) = decide (a ≥ b) := by rw [Bool.eq_iff_iff]; simp
      rw [ltI_eq]; show _ = Result.ok (Value.bool (!decide (a < b))) w; rw [e]; simp [binOp, Op.intCmp]⟩
theorem kBits_eq (k : IntKind) : kBits k = k.bits := by cases k <;> rfl
theorem shiftOp_spec {op : BinOp} {k j : IntKind} {a b : Int} {c : Kv} (hop : op = .shl ∨ op = .shr) (h : shiftOp op k a b c = true) : ∃ y : Value, ∃ v, c v = true ∧ (∀ η, v.γ η = some y) ∧
    ∀ t w, (binOp op t (.int k a) (.int j b)).run P w = .ok y w := by
  have retI' : ∀ {n : Int}, retI k n c = true → c (.int k n) = true := fun h => by simpa [retI] using h
  cases b with
  | negSucc m => cases h
  | ofNat m =>
    have hm : ¬ ((Int.ofNat m) < 0) := by simp
    have e : ((2 : Int) ^ (min (Int.ofNat m).toNat k.bits)) = ((2 ^ (Nat.min m k.bits) : Nat) : Int) := by
      show (2 : Int) ^ (Nat.min m k.bits) = _
      rw [Int.natCast_pow]; rfl
    have hp : 0 < 2 ^ (Nat.min m k.bits) := Nat.pow_pos (by decide)
    rcases hop with rfl | rfl
    · refine ⟨_, _, retI' h, fun η => rfl, fun t w => ?_⟩
      rw [wrapA_eq, kBits_eq]
      simp only [binOp, Op.shift]
      rw [if_neg hm, e]; rfl
    · cases a with
      | ofNat a =>
        refine ⟨_, _, retI' h, fun η => rfl, fun t w => ?_⟩
        rw [kBits_eq]
        simp only [binOp, Op.shift]
        rw [if_neg hm, e, Int.fdiv_eq_ediv_of_nonneg _ (Int.natCast_nonneg _)]; rfl
      | negSucc a =>
        refine ⟨_, _, retI' h, fun η => rfl, fun t w => ?_⟩
        rw [kBits_eq]
        simp only [binOp, Op.shift]
        rw [if_neg hm, e, Int.fdiv_eq_ediv_of_nonneg _ (Int.natCast_nonneg _), Int.negSucc_ediv _ (by exact_mod_cast hp)]
        rfl
end
end Go.Proofs.YthidihigidchgaaGreatDoor.Sy

namespace Go.Proofs.YthidihigidchgaaGreatDoor.Sy

structure Cx.OK' (C : Cx) (P : Program) : Prop extends C.OK P where
  depth : 30 ≤ P.depth
  fields : ∀ t i fs, Tr.look C.types t = some i → i.desc = .struct fs → ∀ f ∈ fs, ∃ n, (P.info? f.type).map (·.size) = some n

theorem eqNats_eq : ∀ (a b : List Nat), eqNats a b = decide (a = b)
  | [], [] => rfl
  | [], _ :: _ => by simp [eqNats]
  | x :: a, [] => by simp [eqNats]
  | x :: a, y :: b => by
    show Bool.rec (motive := fun _ => Bool) false (eqNats a b) (Nat.beq x y) = _
    cases h : Nat.beq x y with
    | false =>
      have : x ≠ y := Nat.ne_of_beq_eq_false h
      simp [this]
    | true =>
      have : x = y := Nat.eq_of_beq_eq_true h
      show eqNats a b = _
      rw [eqNats_eq]; simp [this]
theorem allBytes_spec : ∀ (l : List Nat), allBytes l = true → ∀ x ∈ l, x ≤ 255
  | [], _ => by simp
  | x :: l, h => by
    have h : Bool.rec (motive := fun _ => Bool) false (allBytes l) (Nat.ble x 255) = true := h
    cases hb : Nat.ble x 255 with
    | false => rw [hb] at h; cases h
    | true =>
      rw [hb] at h
      have := allBytes_spec l h
      have := Nat.le_of_ble_eq_true hb
      simp; exact ⟨by assumption, by assumption⟩
/-- bytes as a string has them -/
def strB (s : List Nat) : List UInt8 := s.map UInt8.ofNat
theorem ofNat_toNat {n : Nat} (h : n ≤ 255) : (UInt8.ofNat n).toNat = n := by simp; omega
theorem strB_inj {a b : List Nat} (ha : ∀ x ∈ a, x ≤ 255) (hb : ∀ x ∈ b, x ≤ 255) (h : strB a = strB b) : a = b := by
  have : (strB a).map UInt8.toNat = (strB b).map UInt8.toNat := by rw [h]
  have key : ∀ l : List Nat, (∀ x ∈ l, x ≤ 255) → (strB l).map UInt8.toNat = l := by
    intro l hl
    induction l with
    | nil => rfl
    | cons x l ih =>
      simp only [strB, List.map_cons, List.map_map] at *
      rw [ofNat_toNat (hl x (by simp)), ih fun y hy => hl y (by simp [hy])]
  rwa [key a ha, key b hb] at this
theorem eqStr_spec {a b : List Nat} {k : Bool → Bool} (h : eqStr a b k = true) : k (decide (strB a = strB b)) = true := by
  unfold eqStr at h
  split at h
  · rename_i he
    rw [eqNats_eq] at he
    have : a = b := by simpa using he
    subst this
    simpa using h
  · rename_i he
    rw [eqNats_eq] at he
    have hne : a ≠ b := by simpa using he
    split at h
    · rename_i ha
      split at h
      · rename_i hb
        have : strB a ≠ strB b := fun e => hne (strB_inj (allBytes_spec a ha) (allBytes_spec b hb) e)
        simpa [this] using h
      · cases h
    · cases h
theorem ltNats_eq : ∀ (a b : List Nat), (∀ x ∈ a, x ≤ 255) → (∀ x ∈ b, x ≤ 255) → ltNats a b = Op.bytesLess (strB a) (strB b)
  | [], [], _, _ => rfl
  | [], _ :: _, _, _ => rfl
  | _ :: _, [], _, _ => rfl
  | x :: a, y :: b, ha, hb => by
    have hx := ha x (by simp)
    have hy := hb y (by simp)
    have ih := ltNats_eq a b (fun z hz => ha z (by simp [hz])) (fun z hz => hb z (by simp [hz]))
    have h1 : (UInt8.ofNat x < UInt8.ofNat y) ↔ x < y := by rw [UInt8.lt_iff_toNat_lt, ofNat_toNat hx, ofNat_toNat hy]
    have h2 : (UInt8.ofNat x == UInt8.ofNat y) = decide (x = y) := by
      rw [Bool.eq_iff_iff]; simp only [beq_iff_eq, decide_eq_true_eq]
      constructor
      · intro h
        have := congrArg UInt8.toNat h
        rwa [ofNat_toNat hx, ofNat_toNat hy] at this
      · intro h; rw [h]
    simp only [ltNats, strB, List.map_cons, Op.bytesLess]
    have h3 : decide (UInt8.ofNat x < UInt8.ofNat y) = decide (x < y) := decide_eq_decide.2 h1
    rw [h2, h3]
    split
    · rename_i hb
      have : x < y := Nat.le_of_ble_eq_true hb
      simp [this]
    · rename_i hb
      have hn : ¬ x < y := fun h => by rw [Nat.ble_eq_true_of_le h] at hb; cases hb
      split
      · rename_i he
        have : x = y := Nat.eq_of_beq_eq_true he
        subst this
        simp; exact ih
      · rename_i he
        have : x ≠ y := Nat.ne_of_beq_eq_false he
        simp [hn, this]

theorem str_γ {η : Env} {s : List Nat} {y : Value} (h : (AV.str s).γ η = some y) : y = .string ⟨(strB s).toArray⟩ := by
  simp only [AV.γ, Option.some.injEq] at h; exact h.symm
theorem str_beq (a b : List Nat) : ((⟨(strB a).toArray⟩ : ByteArray).toList == (⟨(strB b).toArray⟩ : ByteArray).toList) = decide (strB a = strB b) := by
  rw [ByteArray.toList_mk, ByteArray.toList_mk, Bool.eq_iff_iff]; simp

section
variable {C : Cx} {P : Program} (hC : C.OK P)
include hC
theorem guardT_spec : ∀ (d : Nat) (t : TypeId), guardT C d t = false → ∀ D, d ≤ D → P.eqGuardType D t = false
  | 0, _, h, _, _ => by simp [guardT] at h
  | d + 1, t, h, 0, hD => by omega
  | d + 1, t, h, D + 1, hD => by
    simp only [guardT, Bool.not_eq_false'] at h
    obtain ⟨u, hu, hund⟩ := under_spec hC h
    simp only [Program.eqGuardType, hund]
    cases u with
    | interface ms => cases hu
    | struct fs =>
      simp only [List.all_eq_true, Bool.not_eq_true'] at hu
      rw [Array.any_eq_false]
      intro i hi
      have := guardT_spec d (fs[i]).type (hu fs[i] (by simp)) D (by omega)
      simp [this]
    | array n e =>
      simp only [Bool.not_eq_true'] at hu
      exact guardT_spec d e hu D (by omega)
    | _ => rfl

end
section
variable {P : Program}
/-- two addresses in memory of one's own -/
theorem sameAddr_own {η : Env} {H : AH} {w : World} (hm : Mem η H w) {i j a b : Nat} {pi pj : Nat × Nat} {vi vj : List AV} {xi xj : Nat} (hij : i ≠ j)
    (hi : Tr.look H i = some (.cells vi xi true)) (hj : Tr.look H j = some (.cells vj xj true)) (hpi : η.ρ i = some pi) (hpj : η.ρ j = some pj) :
    (sameAddr (addr pi a) (addr pj b)).run P w = .ok false w := by
  have hb : pi.1 ≠ pj.1 := fun h => hij (hm.inj i j _ _ pi pj hi hj hpi hpj h)
  obtain ⟨p1, h1, cs1, el1, fr1, hh1, hf1, -⟩ := hm.objs i _ hi
  obtain ⟨p2, h2, cs2, el2, fr2, hh2, hf2, -⟩ := hm.objs j _ hj
  rw [hpi] at h1; cases h1
  rw [hpj] at h2; cases h2
  have hf1 := hf1 rfl
  have hf2 := hf2 rfl
  subst hf1 hf2
  have fz1 : ∀ o, w.frozen? ⟨pi.1, o, none⟩ = false := fun o => by simp [World.frozen?, hh1]
  have fz2 : ∀ o, w.frozen? ⟨pj.1, o, none⟩ = false := fun o => by simp [World.frozen?, hh2]
  have sh1 : w.shape? pi.1 = some (el1, cs1.size) := by simp [World.shape?, hh1]
  have sh2 : w.shape? pj.1 = some (el2, cs2.size) := by simp [World.shape?, hh2]
  simp only [sameAddr, addr, beq_iff_eq, hb, if_false, Sem.run_bind, run_frozen, fz1, fz2, Result.andThen_ok, Bool.false_and, Bool.false_eq_true, noView, viewAt, run_shape, sh1, sh2, Option.isSome_some, if_true, Sem.run_pure,
    Option.isSome_none, mayBeOne, stringish]
  simp [fz1, fz2, sh1, sh2]
end
end Go.Proofs.YthidihigidchgaaGreatDoor.Sy

namespace Go.Proofs.YthidihigidchgaaGreatDoor.Sy
section
variable {C : Cx} {P : Program} (hC : C.OK P)

/-- two values of the memory are equal by their type, or not -/
def EqIs (P : Program) (H : AH) (t : TypeId) (d : Nat) (x y : AV) (b : Bool) : Prop :=
  ∀ η w x' y', Mem η H w → x.γ η = some x' → y.γ η = some y' → ∀ D, d ≤ D → (Op.equalIn D t x' y').run P w = .ok b w
def FieldsAre (P : Program) (H : AH) (fs : List Field) (d : Nat) (xs ys : List AV) (b : Bool) : Prop :=
  ∀ η w xs' ys', Mem η H w → γs η xs = some xs' → γs η ys = some ys' → ∀ D, d ≤ D → (Op.eqFields D xs'.toArray ys'.toArray fs).run P w = .ok b w

theorem map_some {α β : Type} {o : Option α} {f : α → β} {y : β} (h : o.map f = some y) : ∃ x, o = some x ∧ f x = y := by
  simpa [Option.map_eq_some_iff] using h
theorem γ_ptr {η : Env} {i o : Nat} {y : Value} (h : (AV.ptr i o).γ η = some y) : ∃ p, η.ρ i = some p ∧ y = .pointer (some (addr p o)) := by
  simp only [AV.γ] at h; obtain ⟨p, hp, rfl⟩ := map_some h; exact ⟨p, hp, rfl⟩
theorem γ_iface {η : Env} {t : TypeId} {v : AV} {y : Value} (h : (AV.iface t v).γ η = some y) : ∃ x, v.γ η = some x ∧ y = .iface t x := by
  simp only [AV.γ] at h; obtain ⟨p, hp, rfl⟩ := map_some h; exact ⟨p, hp, rfl⟩
theorem γ_agg {η : Env} {l : List AV} {y : Value} (h : (AV.agg l).γ η = some y) : ∃ x, γs η l = some x ∧ y = .agg x.toArray := by
  simp only [AV.γ] at h; obtain ⟨p, hp, rfl⟩ := map_some h; exact ⟨p, hp, rfl⟩
theorem γ_tuple {η : Env} {l : List AV} {y : Value} (h : (AV.tuple l).γ η = some y) : ∃ x, γs η l = some x ∧ y = .tuple x.toArray := by
  simp only [AV.γ] at h; obtain ⟨p, hp, rfl⟩ := map_some h; exact ⟨p, hp, rfl⟩
theorem γ_map {η : Env} {i : Nat} {y : Value} (h : (AV.map i).γ η = some y) : ∃ p, η.ρ i = some p ∧ y = .map (some p.1) := by
  simp only [AV.γ] at h; obtain ⟨p, hp, rfl⟩ := map_some h; exact ⟨p, hp, rfl⟩
theorem γ_yield {η : Env} {i : Nat} {y : Value} (h : (AV.yield i).γ η = some y) : ∃ p, η.ρ i = some p ∧ y = .func (.yield p.1) #[] #[] := by
  simp only [AV.γ] at h; obtain ⟨p, hp, rfl⟩ := map_some h; exact ⟨p, hp, rfl⟩
theorem γ_slice {η : Env} {i o l c : Nat} {y : Value} (h : (AV.slice i o l c).γ η = some y) : ∃ p, η.ρ i = some p ∧ l ≤ c ∧ y = .slice (some (addr p o)) l c := by
  simp only [AV.γ] at h
  split at h
  · rename_i hl
    obtain ⟨p, hp, rfl⟩ := map_some h; exact ⟨p, hp, hl, rfl⟩
  · cases h
theorem γ_slicex {η : Env} {i o l s m : Nat} {y : Value} (h : (AV.slicex i o l s m).γ η = some y) : ∃ p c, η.ρ i = some p ∧ η.κ s = some c ∧ m + l ≤ c ∧ y = .slice (some (addr p o)) l (c - m) := by
  simp only [AV.γ] at h
  split at h
  · rename_i p c hp hc
    split at h
    · rename_i hl
      simp at h; exact ⟨p, c, hp, hc, hl, h.symm⟩
    · cases h
  · cases h
theorem γ_func {η : Env} {fn : Fn} {a b : List AV} {y : Value} (h : (AV.func fn a b).γ η = some y) : (∀ l, fn ≠ .yield l) ∧ ∃ x z, γs η a = some x ∧ γs η b = some z ∧ y = .func fn x.toArray z.toArray := by
  cases fn with
  | yield l => simp [AV.γ] at h
  | _ =>
    simp only [AV.γ] at h
    split at h
    · rename_i x z hx hz
      simp at h; exact ⟨by simp, x, z, hx, hz, h.symm⟩
    · cases h
theorem γ_bool {η : Env} {b : Bool} {y : Value} (h : (AV.bool b).γ η = some y) : y = .bool b := by simpa [AV.γ] using h.symm
theorem γ_int {η : Env} {k : IntKind} {n : Int} {y : Value} (h : (AV.int k n).γ η = some y) : y = .int k n := by simpa [AV.γ] using h.symm

theorem sameAddr_same (p : Nat × Nat) (a b : Nat) (w : World) : (sameAddr (addr p a) (addr p b)).run P w = .ok (decide (a = b)) w := by
  have e : (addr p a == addr p b) = decide (a = b) := by rw [Bool.eq_iff_iff]; simp [addr]
  have hb : ((addr p a).block == (addr p b).block) = true := by simp [addr]
  unfold sameAddr
  rw [if_pos hb, e]; rfl
include hC
set_option maxHeartbeats 4000000 in
theorem eqV_spec {H : AH} : ∀ (d : Nat), (∀ t x y k, eqV C H d t x y k = true → ∃ b, k b = true ∧ EqIs P H t d x y b) ∧
    (∀ fs xs ys k, eqV.eqF C H d fs xs ys k = true → ∃ b, k b = true ∧ FieldsAre P H fs d xs ys b) := by
  intro d
  induction d with
  | zero => exact ⟨fun t x y k h => by simp [eqV] at h, fun fs xs ys k h => by simp [eqV.eqF] at h⟩
  | succ d ih =>
    constructor
    · intro t x y k h
      rw [eqV] at h
      obtain ⟨u, hu, hund⟩ := under_spec hC h
      clear h
      have fin : ∀ b, k b = true → (∀ η w x' y', Mem η H w → x.γ η = some x' → y.γ η = some y' → ∀ D, d ≤ D → (Op.equalIn (D + 1) t x' y').run P w = .ok b w) → ∃ b, k b = true ∧ EqIs P H t (d + 1) x y b :=
        fun b hb he => ⟨b, hb, fun η w x' y' hm hx hy D hD => by
          obtain ⟨D, rfl⟩ : ∃ E, D = E + 1 := ⟨D - 1, by omega⟩
          exact he η w x' y' hm hx hy D (by omega)⟩
      split at hu
      · rename_i a b
        rw [fzBool_eq] at hu
        refine fin _ hu fun η w x' y' hm hx hy D hD => ?_
        rw [γ_bool hx, γ_bool hy, run_equalIn_bool' w D t a b hund]
        cases a <;> cases b <;> rfl
      · rename_i i a j b
        split at hu
        · rename_i hk
          have hk := kEq_spec hk
          subst hk
          rw [fzBool_eq] at hu
          refine fin _ hu fun η w x' y' hm hx hy D hD => ?_
          rw [γ_int hx, γ_int hy, run_equalIn_int w D t _ _ a b hund, eqI_eq]; rfl
        · cases hu
      · rename_i i a j b
        split at hu
        · rename_i hk
          have hk := fEq_spec hk
          subst hk
          rw [fzBool_eq] at hu
          refine fin _ hu fun η w x' y' hm hx hy D hD => ?_
          simp only [AV.γ, Option.some.injEq] at hx hy
          subst hx hy
          simp [Op.equalIn, run_underlying hund, Op.floatEq, isOrd_eq]
        · cases hu
      · rename_i i a b j a' b'
        split at hu
        · rename_i hk
          have hk := fEq_spec hk
          subst hk
          rw [fzBool_eq] at hu
          refine fin _ hu fun η w x' y' hm hx hy D hD => ?_
          simp only [AV.γ, Option.some.injEq] at hx hy
          subst hx hy
          simp [Op.equalIn, run_underlying hund, Op.floatEq, isOrd_eq]
        · cases hu
      · rename_i a b
        have hu := eqStr_spec hu
        refine fin _ hu fun η w x' y' hm hx hy D hD => ?_
        rw [str_γ hx, str_γ hy, run_equalIn_string w D t _ _ hund, str_beq]
      · refine fin _ hu fun η w x' y' hm hx hy D hD => ?_
        simp only [AV.γ, Option.some.injEq] at hx hy
        subst hx hy
        simp [Op.equalIn, run_underlying hund]
      · refine fin _ hu fun η w x' y' hm hx hy D hD => ?_
        obtain ⟨p, hp, rfl⟩ := γ_ptr hy
        simp only [AV.γ, Option.some.injEq] at hx
        subst hx
        simp [Op.equalIn, run_underlying hund]
      · refine fin _ hu fun η w x' y' hm hx hy D hD => ?_
        obtain ⟨p, hp, rfl⟩ := γ_ptr hx
        simp only [AV.γ, Option.some.injEq] at hy
        subst hy
        simp [Op.equalIn, run_underlying hund]
      · rename_i e i a j b
        obtain ⟨n, hn, hsz⟩ := size_spec hC hu
        split at hn
        · cases hn
        · rename_i m
          split at hn
          · rename_i hij
            have hij := Nat.eq_of_beq_eq_true hij
            subst hij
            have hn : k (decide (a = b)) = true := by
              unfold eqNat at hn
              split at hn
              · rename_i hb
                have := Nat.eq_of_beq_eq_true hb
                simpa [this] using hn
              · rename_i hb
                have := Nat.ne_of_beq_eq_false hb
                simpa [this] using hn
            refine fin _ hn fun η w x' y' hm hx hy D hD => ?_
            obtain ⟨p, hp, rfl⟩ := γ_ptr hx
            obtain ⟨q, hq, rfl⟩ := γ_ptr hy
            rw [hp] at hq; cases hq
            have : (addr p a == addr p b) = decide (a = b) := by rw [Bool.eq_iff_iff]; simp [addr]
            simp only [Op.equalIn, Sem.run_bind, run_underlying hund, Result.andThen_ok, run_sizeOf w hsz]
            simp only [ne_eq, Nat.add_eq_zero_iff, Nat.one_ne_zero, and_false, not_false_eq_true, if_true]
            exact sameAddr_same p a b w
          · rename_i hij
            have hij := Nat.ne_of_beq_eq_false hij
            obtain ⟨oi, hoi, hn⟩ := Tr.get_spec hn
            unfold AObj.onCells at hn
            split at hn
            · rename_i vi xi pi
              obtain ⟨oj, hoj, hn⟩ := Tr.get_spec hn
              unfold AObj.onCells at hn
              split at hn
              · rename_i vj xj pj
                dsimp only at hn
                split at hn
                · split at hn
                  · refine fin _ hn fun η w x' y' hm hx hy D hD => ?_
                    obtain ⟨p, hp, rfl⟩ := γ_ptr hx
                    obtain ⟨q, hq, rfl⟩ := γ_ptr hy
                    simp only [Op.equalIn, Sem.run_bind, run_underlying hund, Result.andThen_ok, run_sizeOf w hsz]
                    simp only [ne_eq, Nat.add_eq_zero_iff, Nat.one_ne_zero, and_false, not_false_eq_true, if_true]
                    exact sameAddr_own hm hij hoi hoj hp hq
                  · cases hn
                · cases hn
              · cases hn
            · cases hn
      · refine fin _ hu fun η w x' y' hm hx hy D hD => ?_
        simp only [AV.γ, Option.some.injEq] at hx hy
        subst hx hy
        simp [Op.equalIn, run_underlying hund]
      · refine fin _ hu fun η w x' y' hm hx hy D hD => ?_
        obtain ⟨z, hz, rfl⟩ := γ_iface hy
        simp only [AV.γ, Option.some.injEq] at hx
        subst hx
        simp [Op.equalIn, run_underlying hund]
      · refine fin _ hu fun η w x' y' hm hx hy D hD => ?_
        obtain ⟨z, hz, rfl⟩ := γ_iface hx
        simp only [AV.γ, Option.some.injEq] at hy
        subst hy
        simp [Op.equalIn, run_underlying hund]
      · rename_i ms a x0 b y0
        split at hu
        · rename_i hab
          have hab := Nat.ne_of_beq_eq_false hab
          refine fin _ hu fun η w x' y' hm hx hy D hD => ?_
          obtain ⟨z, hz, rfl⟩ := γ_iface hx
          obtain ⟨z', hz', rfl⟩ := γ_iface hy
          simp [Op.equalIn, run_underlying hund, hab]
        · rename_i hab
          have hab := Nat.eq_of_beq_eq_true hab
          subst hab
          obtain ⟨i, hi, hinf, -⟩ := ty_spec hC hu
          split at hi
          · rename_i hcm
            obtain ⟨bb, hb, he⟩ := ih.1 _ _ _ _ hi
            refine fin _ hb fun η w x' y' hm hx hy D hD => ?_
            obtain ⟨z, hz, rfl⟩ := γ_iface hx
            obtain ⟨z', hz', rfl⟩ := γ_iface hy
            have := he η w z z' hm hz hz' D hD
            simp [Op.equalIn, run_underlying hund, run_typeInfo w hinf, hcm, this]
          · cases hi
      · rename_i fs xs ys
        split at hu
        · cases hu
        · rename_i hst
          rw [hC.p] at hst
          obtain ⟨bb, hb, he⟩ := ih.2 _ _ _ _ hu
          refine fin _ hb fun η w x' y' hm hx hy D hD => ?_
          obtain ⟨z, hz, rfl⟩ := γ_agg hx
          obtain ⟨z', hz', rfl⟩ := γ_agg hy
          have hf : P.fieldsOf t = fs := by simp [Program.fieldsOf, hund]
          rw [run_equalIn_struct w D t _ _ (by rw [hf, hund]) hst, hf]
          exact he η w z z' hm hz hz' D hD
      all_goals first
        | (cases hu; done)
        | (refine fin _ hu fun η w x' y' hm hx hy D hD => ?_
           simp only [AV.γ, Option.some.injEq] at hx hy
           subst hx hy
           simp [Op.equalIn, run_underlying hund]; done)
        | (refine fin _ hu fun η w x' y' hm hx hy D hD => ?_
           obtain ⟨p, hp, _, rfl⟩ := γ_slice hy
           simp only [AV.γ, Option.some.injEq] at hx
           subst hx
           simp [Op.equalIn, run_underlying hund]; done)
        | (refine fin _ hu fun η w x' y' hm hx hy D hD => ?_
           obtain ⟨p, _, hp, _, _, rfl⟩ := γ_slicex hy
           simp only [AV.γ, Option.some.injEq] at hx
           subst hx
           simp [Op.equalIn, run_underlying hund]; done)
        | (refine fin _ hu fun η w x' y' hm hx hy D hD => ?_
           obtain ⟨p, hp, _, rfl⟩ := γ_slice hx
           simp only [AV.γ, Option.some.injEq] at hy
           subst hy
           simp [Op.equalIn, run_underlying hund]; done)
        | (refine fin _ hu fun η w x' y' hm hx hy D hD => ?_
           obtain ⟨p, _, hp, _, _, rfl⟩ := γ_slicex hx
           simp only [AV.γ, Option.some.injEq] at hy
           subst hy
           simp [Op.equalIn, run_underlying hund]; done)
        | (refine fin _ hu fun η w x' y' hm hx hy D hD => ?_
           obtain ⟨p, hp, rfl⟩ := γ_map hy
           simp only [AV.γ, Option.some.injEq] at hx
           subst hx
           simp [Op.equalIn, run_underlying hund]; done)
        | (refine fin _ hu fun η w x' y' hm hx hy D hD => ?_
           obtain ⟨p, hp, rfl⟩ := γ_map hx
           simp only [AV.γ, Option.some.injEq] at hy
           subst hy
           simp [Op.equalIn, run_underlying hund]; done)
        | (refine fin _ hu fun η w x' y' hm hx hy D hD => ?_
           obtain ⟨_, p, _, hp, _, rfl⟩ := γ_func hy
           simp only [AV.γ, Option.some.injEq] at hx
           subst hx
           simp [Op.equalIn, run_underlying hund]; done)
        | (refine fin _ hu fun η w x' y' hm hx hy D hD => ?_
           obtain ⟨_, p, _, hp, _, rfl⟩ := γ_func hx
           simp only [AV.γ, Option.some.injEq] at hy
           subst hy
           simp [Op.equalIn, run_underlying hund]; done)
    · intro fs xs ys k h
      cases fs with
      | nil =>
        simp only [eqV.eqF] at h
        exact ⟨true, h, fun η w xs' ys' hm hx hy D hD => by simp [Op.eqFields]⟩
      | cons f fs =>
        simp only [eqV.eqF] at h
        split at h
        · rename_i hn
          obtain ⟨b, hb, he⟩ := ih.2 _ _ _ _ h
          refine ⟨b, hb, fun η w xs' ys' hm hx hy D hD => ?_⟩
          have hn : f.name = "_" := by simpa using hn
          simp only [Op.eqFields, hn, ne_eq, not_true_eq_false, if_false]
          exact he η w xs' ys' hm hx hy D (by omega)
        · rename_i hn
          have hn : f.name ≠ "_" := by simpa using hn
          obtain ⟨u, hu, hpu⟩ := part_spec hC h
          obtain ⟨v, hv, hpv⟩ := part_spec hC hu
          obtain ⟨b, hb, he⟩ := ih.1 _ _ _ _ hv
          split at hb
          · obtain ⟨b2, hb2, he2⟩ := ih.2 _ _ _ _ hb
            refine ⟨b2, hb2, fun η w xs' ys' hm hx hy D hD => ?_⟩
            obtain ⟨x, hx1, hx2⟩ := hpu η xs' hx
            obtain ⟨y, hy1, hy2⟩ := hpv η ys' hy
            have e1 := he η w x y hm hx1 hy1 D (by omega)
            have e2 := he2 η w xs' ys' hm hx hy D (by omega)
            simp [Op.eqFields, hn, hx2, hy2, e1, e2]
          · refine ⟨false, hb, fun η w xs' ys' hm hx hy D hD => ?_⟩
            obtain ⟨x, hx1, hx2⟩ := hpu η xs' hx
            obtain ⟨y, hy1, hy2⟩ := hpv η ys' hy
            have e1 := he η w x y hm hx1 hy1 D (by omega)
            simp [Op.eqFields, hn, hx2, hy2, e1]
end
end Go.Proofs.YthidihigidchgaaGreatDoor.Sy

namespace Go.Proofs.YthidihigidchgaaGreatDoor.Sy

def prim : Value → Bool
  | .int _ _ => true
  | .float _ _ => true
  | .complex _ _ _ => true
  | .string _ => true
  | _ => false
theorem binOp_eql {P : Program} {w : World} {t : TypeId} {x y : Value} (h : prim x = false) : (binOp .eql t x y).run P w = ((Op.equal t x y).run P w).andThen fun b w => .ok (.bool b) w := by
  cases x <;> simp [prim] at h <;> cases y <;> simp [binOp]
theorem binOp_neq {P : Program} {w : World} {t : TypeId} {x y : Value} (h : prim x = false) : (binOp .neq t x y).run P w = ((Op.equal t x y).run P w).andThen fun b w => .ok (.bool (!b)) w := by
  cases x <;> simp [prim] at h <;> cases y <;> simp [binOp]

theorem eqGuard_idle {P : Program} {w : World} {op : BinOp} {t : TypeId} {ox oy : Operand} {x y : Value} (h : ¬ (x = .nilIface ∧ y = .nilIface)) (h' : ∀ a b, ¬ (x = .agg a ∧ y = .agg b)) :
    (eqGuard op t ox oy x y).run P w = .ok () w := by
  cases op <;> first
    | rfl
    | (cases x <;> cases y <;> first | rfl | exact absurd ⟨rfl, rfl⟩ h | exact absurd ⟨rfl, rfl⟩ (h' _ _))
theorem eqGuard_nil {P : Program} {w : World} {op : BinOp} {t : TypeId} {ox oy : Operand} (h : (isConst ox || isConst oy) = true) : (eqGuard op t ox oy .nilIface .nilIface).run P w = .ok () w := by
  cases op <;> first
    | rfl
    | (cases ox <;> cases oy <;> first | rfl | (simp [isConst] at h))
theorem eqGuard_agg {P : Program} {w : World} {op : BinOp} {t : TypeId} {ox oy : Operand} {a b : Array Value} (h : P.eqGuardType P.depth t = false) : (eqGuard op t ox oy (.agg a) (.agg b)).run P w = .ok () w := by
  cases op <;> first
    | rfl
    | (simp [eqGuard, h])

theorem γ_prim {η : Env} {v : AV} {x : Value} (h : v.γ η = some x) (hp : prim x = true) : (∃ k n, v = .int k n) ∨ (∃ k n, v = .float k n) ∨ (∃ k a b, v = .complex k a b) ∨ (∃ s, v = .str s) ∨ ∃ i, v = .atom i := by
  cases v with
  | int k n => exact .inl ⟨_, _, rfl⟩
  | float k n => exact .inr (.inl ⟨_, _, rfl⟩)
  | complex k a b => exact .inr (.inr (.inl ⟨_, _, _, rfl⟩))
  | str s => exact .inr (.inr (.inr (.inl ⟨_, rfl⟩)))
  | atom i => exact .inr (.inr (.inr (.inr ⟨_, rfl⟩)))
  | ptr i o => obtain ⟨_, _, rfl⟩ := γ_ptr h; cases hp
  | slice i o l c => obtain ⟨_, _, _, rfl⟩ := γ_slice h; cases hp
  | slicex i o l c m => obtain ⟨_, _, _, _, _, rfl⟩ := γ_slicex h; cases hp
  | map i => obtain ⟨_, _, rfl⟩ := γ_map h; cases hp
  | yield i => obtain ⟨_, _, rfl⟩ := γ_yield h; cases hp
  | func fn a b => obtain ⟨_, _, _, _, _, rfl⟩ := γ_func h; cases hp
  | iface t v => obtain ⟨_, _, rfl⟩ := γ_iface h; cases hp
  | agg l => obtain ⟨_, _, rfl⟩ := γ_agg h; cases hp
  | tuple l => obtain ⟨_, _, rfl⟩ := γ_tuple h; cases hp
  | _ => all_goals (simp [AV.γ] at h; subst h; cases hp)

/-- an operand's value in a frame -/
def evt (tmps : Array Value) : Operand → Value
  | .tmp t => tmps.getD t undef
  | .const v => v
  | .global g => .pointer (some ⟨g, 0, none⟩)
  | .func f => .func (.func f) #[] #[]
theorem ev_spec {x : Operand} {T : Tr AV} {k : Kv} (h : ev x T k = true) : ∃ v, k v = true ∧ ∀ η nt tmps, TRel η T nt tmps → v.γ η = some (evt tmps x) := by
  cases x with
  | tmp t =>
    have h : Tr.get T t k = true := h
    obtain ⟨v, hv, hk⟩ := Tr.get_spec h
    refine ⟨v, hk, fun η nt tmps hT => ?_⟩
    obtain ⟨y, hy, ht⟩ := hT.at_ t v hv
    rw [hy]; simp [evt, Array.getD_eq_getD_getElem?, ht]
  | const v =>
    have h : evConst v k = true := h
    unfold evConst at h
    split at h
    · rename_i a ha
      rw [fz_eq] at h
      exact ⟨a, h, fun η nt tmps _ => absV_spec η v a ha⟩
    · cases h
  | global g => cases h
  | func f => exact ⟨_, h, fun η nt tmps _ => by simp [AV.γ, γs, evt]⟩
theorem evL_spec : ∀ (l : List Operand) {T : Tr AV} {k : List AV → Bool}, evL l T k = true → ∃ vs, k vs = true ∧ ∀ η nt tmps, TRel η T nt tmps → γs η vs = some (l.map (evt tmps))
  | [], T, k, h => ⟨[], h, fun η nt tmps _ => by simp [γs]⟩
  | x :: l, T, k, h => by
    have h : ev x T (fun v => evL l T fun l => k (v :: l)) = true := h
    obtain ⟨v, hv, hx⟩ := ev_spec h
    obtain ⟨vs, hvs, hl⟩ := evL_spec l hv
    exact ⟨v :: vs, hvs, fun η nt tmps hT => by rw [List.map_cons]; exact γs_cons_mk (hx η nt tmps hT) (hl η nt tmps hT)⟩
theorem evP_spec : ∀ (l : List (Nat × Operand)) {T : Tr AV} {k : List (Nat × AV) → Bool}, evP l T k = true → ∃ ps, k ps = true ∧ ps.map (·.1) = l.map (·.1) ∧
    ∀ η nt tmps, TRel η T nt tmps → γs η (ps.map (·.2)) = some (l.map fun x => evt tmps x.2)
  | [], T, k, h => ⟨[], h, rfl, fun η nt tmps _ => by simp [γs]⟩
  | x :: l, T, k, h => by
    have h : ev x.2 T (fun v => evP l T fun l => k ((x.1, v) :: l)) = true := h
    obtain ⟨v, hv, hx⟩ := ev_spec h
    obtain ⟨vs, hvs, he, hl⟩ := evP_spec l hv
    exact ⟨(x.1, v) :: vs, hvs, by simp [he], fun η nt tmps hT => by simp only [List.map_cons]; exact γs_cons_mk (hx η nt tmps hT) (hl η nt tmps hT)⟩
/-- an operand that may be left out -/
def optγ (η : Env) : Option AV → Option (Option Value)
  | none => some none
  | some v => (v.γ η).map some
theorem evO_spec {x : Option Operand} {T : Tr AV} {k : Option AV → Bool} (h : evO x T k = true) : ∃ v, k v = true ∧ v.isSome = x.isSome ∧ ∀ η nt tmps, TRel η T nt tmps → optγ η v = some (x.map (evt tmps)) := by
  cases x with
  | none => exact ⟨none, h, rfl, fun _ _ _ _ => rfl⟩
  | some x =>
    have h : ev x T (fun v => k (some v)) = true := h
    obtain ⟨v, hv, hx⟩ := ev_spec h
    exact ⟨some v, hv, rfl, fun η nt tmps hT => by simp [optγ, hx η nt tmps hT]⟩
theorem asNat_spec {v : AV} {k : IntKind → Nat → Bool} (h : asNat v k = true) : ∃ i n, k i n = true ∧ ∀ η, v.γ η = some (.int i (n : Int)) := by
  unfold asNat at h
  split at h
  · exact ⟨_, _, h, fun η => by simp [AV.γ]⟩
  · cases h

section
variable {C : Cx} {P : Program} (hC : C.OK' P)
include hC
/-- a binary operator -/
theorem binA_spec {H : AH} {op : BinOp} {t : TypeId} {ox oy : Operand} {x y : AV} {c : Kv} (h : binA C H op t ox oy x y c = true) : ∃ v, c v = true ∧
    ∀ η w x' y', Mem η H w → x.γ η = some x' → y.γ η = some y' → ∃ z, v.γ η = some z ∧ ((do eqGuard op t ox oy x' y'; binOp op t x' y') : Sem Value).run P w = .ok z w := by
  unfold binA at h
  split at h
  · rename_i k a j b
    have fin : ∀ {z v}, c v = true → (∀ η, v.γ η = some z) → (∀ w, (binOp op t (.int k a) (.int j b)).run P w = .ok z w) → ∃ v, c v = true ∧
        ∀ η w x' y', Mem η H w → (AV.int k a).γ η = some x' → (AV.int j b).γ η = some y' → ∃ z, v.γ η = some z ∧ ((do eqGuard op t ox oy x' y'; binOp op t x' y') : Sem Value).run P w = .ok z w := by
      intro z v hv hz he
      refine ⟨v, hv, fun η w x' y' _ hx hy => ⟨z, hz η, ?_⟩⟩
      rw [γ_int hx, γ_int hy]
      simp only [Sem.run_bind, eqGuard_idle (P := P) (w := w) (op := op) (t := t) (ox := ox) (oy := oy) (x := .int k a) (y := .int j b) (by simp) (by simp), Result.andThen_ok, he]
    split at h
    · obtain ⟨z, v, hv, hz, he⟩ := shiftOp_spec (P := P) (j := j) (.inl rfl) h
      exact fin hv hz fun w => he t w
    · obtain ⟨z, v, hv, hz, he⟩ := shiftOp_spec (P := P) (j := j) (.inr rfl) h
      exact fin hv hz fun w => he t w
    · rename_i h1 h2
      split at h
      · rename_i hk
        have hk := kEq_spec hk
        subst hk
        obtain ⟨z, v, hv, hz, he⟩ := intOp_spec (P := P) h1 h2 h
        exact fin hv hz fun w => he t w
      · cases h
  · rename_i k a j b
    split at h
    · rename_i hk
      have hk := fEq_spec hk
      subst hk
      have fin : ∀ {z v}, c v = true → (∀ η, v.γ η = some z) → (∀ w, (binOp op t (.float k a) (.float k b)).run P w = .ok z w) → ∃ v, c v = true ∧
          ∀ η w x' y', Mem η H w → (AV.float k a).γ η = some x' → (AV.float k b).γ η = some y' → ∃ z, v.γ η = some z ∧ ((do eqGuard op t ox oy x' y'; binOp op t x' y') : Sem Value).run P w = .ok z w := by
        intro z v hv hz he
        refine ⟨v, hv, fun η w x' y' _ hx hy => ⟨z, hz η, ?_⟩⟩
        simp only [AV.γ, Option.some.injEq] at hx hy
        subst hx hy
        simp only [Sem.run_bind, eqGuard_idle (P := P) (w := w) (op := op) (t := t) (ox := ox) (oy := oy) (x := .float k a) (y := .float k b) (by simp) (by simp), Result.andThen_ok, he]
      have ar : ∀ {o : BinOp} {r : Option Nat}, (∀ w, (binOp o t (.float k a) (.float k b)).run P w = (match r with | some n => .ok (.float k n) w | none => (binOp o t (.float k a) (.float k b)).run P w)) →
          (match r with | some n => fzNat n fun n => c (.float k n) | none => false) = true → ∃ z v, c v = true ∧ (∀ η, v.γ η = some z) ∧ ∀ w, (binOp o t (.float k a) (.float k b)).run P w = .ok z w := by
        intro o r he hr
        cases r with
        | none => cases hr
        | some n =>
          simp only [fzNat_eq] at hr
          exact ⟨_, _, hr, fun η => rfl, fun w => he w⟩
      unfold floatOp at h
      split at h
      case h_1 =>
        obtain ⟨z, v, hv, hz, he⟩ := ar (o := .add) (r := k.format.add a b) (fun w => by cases hh : k.format.add a b <;> simp [binOp, Op.floatArith, hh]) h
        exact fin hv hz he
      case h_2 =>
        obtain ⟨z, v, hv, hz, he⟩ := ar (o := .sub) (r := k.format.sub a b) (fun w => by cases hh : k.format.sub a b <;> simp [binOp, Op.floatArith, hh]) h
        exact fin hv hz he
      case h_3 =>
        obtain ⟨z, v, hv, hz, he⟩ := ar (o := .mul) (r := k.format.mul a b) (fun w => by cases hh : k.format.mul a b <;> simp [binOp, Op.floatArith, hh]) h
        exact fin hv hz he
      case h_4 =>
        obtain ⟨z, v, hv, hz, he⟩ := ar (o := .quo) (r := k.format.div a b) (fun w => by cases hh : k.format.div a b <;> simp [binOp, Op.floatArith, hh]) h
        exact fin hv hz he
      all_goals first
        | (cases h; done)
        | (simp only [retB, fzBool_eq] at h
           exact fin h (fun η => rfl) fun w => by simp [binOp, Op.floatCmp, isOrd_eq, bne])
    · cases h
  · rename_i k a b j a' b'
    split at h
    · rename_i hk
      have hk := fEq_spec hk
      subst hk
      unfold complexOp at h
      split at h
      · simp only [retB, fzBool_eq] at h
        refine ⟨_, h, fun η w x' y' _ hx hy => ⟨_, rfl, ?_⟩⟩
        simp only [AV.γ, Option.some.injEq] at hx hy
        subst hx hy
        simp only [Sem.run_bind, eqGuard_idle (P := P) (w := w) (op := .eql) (t := t) (ox := ox) (oy := oy) (x := .complex k a b) (y := .complex k a' b') (by simp) (by simp), Result.andThen_ok]
        simp only [binOp, ne_eq, not_true_eq_false, if_false, Op.complexOp, Op.Complex.cmp, Op.floatCmp, isOrd_eq]
        cases h1 : (k.format.order a a' == some Ordering.eq) <;> cases h2 : (k.format.order b b' == some Ordering.eq) <;> simp [h1, h2, asBool]
      · simp only [retB, fzBool_eq] at h
        refine ⟨_, h, fun η w x' y' _ hx hy => ⟨_, rfl, ?_⟩⟩
        simp only [AV.γ, Option.some.injEq] at hx hy
        subst hx hy
        simp only [Sem.run_bind, eqGuard_idle (P := P) (w := w) (op := .neq) (t := t) (ox := ox) (oy := oy) (x := .complex k a b) (y := .complex k a' b') (by simp) (by simp), Result.andThen_ok]
        simp only [binOp, ne_eq, not_true_eq_false, if_false, Op.complexOp, Op.Complex.cmp, Op.floatCmp, isOrd_eq]
        cases h1 : (k.format.order a a' == some Ordering.eq) <;> cases h2 : (k.format.order b b' == some Ordering.eq) <;> simp [h1, h2, asBool]
      · cases h
    · cases h
  · rename_i a b
    have fin : ∀ {z v}, c v = true → (∀ η, v.γ η = some z) → (∀ w, (binOp op t (.string ⟨(strB a).toArray⟩) (.string ⟨(strB b).toArray⟩)).run P w = .ok z w) → ∃ v, c v = true ∧
        ∀ η w x' y', Mem η H w → (AV.str a).γ η = some x' → (AV.str b).γ η = some y' → ∃ z, v.γ η = some z ∧ ((do eqGuard op t ox oy x' y'; binOp op t x' y') : Sem Value).run P w = .ok z w := by
      intro z v hv hz he
      refine ⟨v, hv, fun η w x' y' _ hx hy => ⟨z, hz η, ?_⟩⟩
      rw [str_γ hx, str_γ hy]
      simp only [Sem.run_bind, eqGuard_idle (P := P) (w := w) (op := op) (t := t) (ox := ox) (oy := oy) (x := .string _) (y := .string _) (by simp) (by simp), Result.andThen_ok, he]
    unfold strOp at h
    split at h
    · rw [lenN_eq, lenN_eq] at h
      split at h
      · rename_i hle
        have hle := Nat.le_of_ble_eq_true hle
        have hcat : ∀ (xs ys : List Nat) (k : List Nat → Bool), catN xs ys k = k (xs ++ ys) := by
          intro xs
          induction xs with
          | nil => intros; rfl
          | cons x xs ih => intro ys k; simp only [catN]; rw [ih]; rfl
        rw [hcat] at h
        refine fin h (fun η => rfl) fun w => ?_
        have hsz : ∀ l : List UInt8, (ByteArray.mk l.toArray).size = l.length := fun l => by simp [ByteArray.size]
        simp only [binOp, Op.stringOp, hsz]
        rw [if_neg (by simp [strB, IntKind.max, IntKind.signed, IntKind.bits] at hle ⊢; omega)]
        simp only [Sem.run_pure]
        congr 2
        simp [strB, ByteArray.append_eq, ByteArray.ext_iff]
      · cases h
    · have h := eqStr_spec h
      exact fin h (fun η => rfl) fun w => by simp only [binOp, Op.stringOp, Sem.run_pure]; rw [str_beq]
    · have h := eqStr_spec h
      simp only [retB, fzBool_eq] at h
      exact fin h (fun η => rfl) fun w => by simp only [binOp, Op.stringOp, Sem.run_pure]; rw [str_beq]
    · split at h
      · rename_i ha
        have ha := allBytes_spec a ha
        split at h
        · rename_i hb
          have hb := allBytes_spec b hb
          have e1 : eqNats a b = decide (strB a = strB b) := by
            rw [eqNats_eq]
            exact decide_eq_decide.2 ⟨fun h => by rw [h], strB_inj ha hb⟩
          rw [ltNats_eq a b ha hb] at h
          rw [e1] at h
          split at h
          all_goals first
            | (cases h; done)
            | (simp only [retB, fzBool_eq] at h
               exact fin h (fun η => rfl) fun w => by simp only [binOp, Op.stringOp, Sem.run_pure, ByteArray.toList_mk]; first | done | (rw [← str_beq]; simp [ByteArray.toList_mk]))
        · cases h
      · cases h
  · rename_i h1 h2 h3 h4
    -- all the rest: == and != by the type
    have hpr : ∀ d (k : Bool → Bool), eqV C H (d + 1) t x y k = true → ∀ η x', x.γ η = some x' → prim x' = false := by
      intro d k he η x' hx
      cases hp : prim x' with
      | false => rfl
      | true =>
        exfalso
        rw [eqV] at he
        obtain ⟨u, hu, _⟩ := under_spec hC.toOK he
        rcases γ_prim hx hp with ⟨k, n, rfl⟩ | ⟨k, n, rfl⟩ | ⟨k, a, b, rfl⟩ | ⟨s, rfl⟩ | ⟨i, rfl⟩
        · split at hu <;> first | (cases hu; done) | contradiction | exact h1 _ _ _ _ rfl rfl
        · split at hu <;> first | (cases hu; done) | contradiction | exact h2 _ _ _ _ rfl rfl
        · split at hu <;> first | (cases hu; done) | contradiction | exact h3 _ _ _ _ _ _ rfl rfl
        · split at hu <;> first | (cases hu; done) | contradiction | exact h4 _ _ rfl rfl
        · split at hu <;> first | (cases hu; done) | contradiction
    have go : ∀ (hgd : ∀ η w x' y', x.γ η = some x' → y.γ η = some y' → (eqGuard op t ox oy x' y').run P w = .ok () w),
        eqBy C H op t x y c = true → ∃ v, c v = true ∧
        ∀ η w x' y', Mem η H w → x.γ η = some x' → y.γ η = some y' → ∃ z, v.γ η = some z ∧ ((do eqGuard op t ox oy x' y'; binOp op t x' y') : Sem Value).run P w = .ok z w := by
      clear h
      intro hgd hg
      unfold eqBy at hg
      cases op with
      | eql =>
        obtain ⟨b, hb, he⟩ := (eqV_spec hC.toOK 40).1 _ _ _ _ hg
        refine ⟨_, hb, fun η w x' y' hm hx hy => ⟨_, rfl, ?_⟩⟩
        simp only [Sem.run_bind, hgd η w x' y' hx hy, Result.andThen_ok, binOp_eql (hpr 39 _ hg η x' hx), Op.equal, Op.maxDepth, he η w x' y' hm hx hy 10000 (by omega)]
      | neq =>
        obtain ⟨b, hb, he⟩ := (eqV_spec hC.toOK 40).1 _ _ _ _ hg
        simp only [retB, fzBool_eq] at hb
        refine ⟨_, hb, fun η w x' y' hm hx hy => ⟨_, rfl, ?_⟩⟩
        simp only [Sem.run_bind, hgd η w x' y' hx hy, Result.andThen_ok, binOp_neq (hpr 39 _ hg η x' hx), Op.equal, Op.maxDepth, he η w x' y' hm hx hy 10000 (by omega)]
      | _ => all_goals (cases hg)
    have hval : ∀ η x' y', x.γ η = some x' → y.γ η = some y' → (x' = .nilIface ∧ y' = .nilIface → (x = .nilIface ∧ y = .nilIface) ∨ (∃ i, x = .atom i) ∨ ∃ i, y = .atom i) ∧
        ∀ a b, x' = .agg a ∧ y' = .agg b → ∃ l r, x = .agg l ∧ y = .agg r := by
      intro η x' y' hx hy
      have key : ∀ v : AV, v.γ η = some .nilIface → v = .nilIface ∨ ∃ i, v = .atom i := by
        intro v hv
        cases v with
        | nilIface => exact .inl rfl
        | atom i => exact .inr ⟨i, rfl⟩
        | ptr i o => obtain ⟨_, _, h⟩ := γ_ptr hv; cases h
        | slice i o l c => obtain ⟨_, _, _, h⟩ := γ_slice hv; cases h
        | slicex i o l c m => obtain ⟨_, _, _, _, _, h⟩ := γ_slicex hv; cases h
        | map i => obtain ⟨_, _, h⟩ := γ_map hv; cases h
        | yield i => obtain ⟨_, _, h⟩ := γ_yield hv; cases h
        | func fn a b => obtain ⟨_, _, _, _, _, h⟩ := γ_func hv; cases h
        | iface t v => obtain ⟨_, _, h⟩ := γ_iface hv; cases h
        | agg l => obtain ⟨_, _, h⟩ := γ_agg hv; cases h
        | tuple l => obtain ⟨_, _, h⟩ := γ_tuple hv; cases h
        | _ => all_goals (simp [AV.γ] at hv)
      have key2 : ∀ (v : AV) a, v.γ η = some (.agg a) → ∃ l, v = .agg l := by
        intro v a hv
        cases v with
        | agg l => exact ⟨l, rfl⟩
        | tuple l => obtain ⟨_, _, h⟩ := γ_tuple hv; cases h
        | _ => all_goals exact absurd rfl ((one_γ hv rfl).1 a)
      refine ⟨?_, ?_⟩
      · rintro ⟨rfl, rfl⟩
        rcases key x hx with rfl | h
        · rcases key y hy with rfl | h
          · exact .inl ⟨rfl, rfl⟩
          · exact .inr (.inr h)
        · exact .inr (.inl h)
      · rintro a b ⟨rfl, rfl⟩
        obtain ⟨l, rfl⟩ := key2 x _ hx
        obtain ⟨r, rfl⟩ := key2 y _ hy
        exact ⟨l, r, rfl, rfl⟩
    have atomL : ∀ i k, x = .atom i → eqV C H 40 t x y k = true → False := fun i k hi he => by
      subst hi
      rw [eqV] at he
      obtain ⟨u, hu, _⟩ := under_spec hC.toOK he
      split at hu <;> first | (cases hu; done) | contradiction
    have atomR : ∀ i k, y = .atom i → eqV C H 40 t x y k = true → False := fun i k hi he => by
      subst hi
      rw [eqV] at he
      obtain ⟨u, hu, _⟩ := under_spec hC.toOK he
      split at hu <;> first | (cases hu; done) | contradiction
    have noAtom : eqBy C H op t x y c = true → (∀ i, x ≠ .atom i) ∧ ∀ i, y ≠ .atom i := by
      clear h
      intro hg
      unfold eqBy at hg
      cases op with
      | eql => exact ⟨fun i hi => atomL i _ hi hg, fun i hi => atomR i _ hi hg⟩
      | neq => exact ⟨fun i hi => atomL i _ hi hg, fun i hi => atomR i _ hi hg⟩
      | _ => all_goals (cases hg)
    split at h
    · split at h
      · rename_i hk
        refine go (fun η w x' y' hx hy => ?_) h
        simp only [AV.γ, Option.some.injEq] at hx hy
        subst hx hy
        exact eqGuard_nil hk
      · cases h
    · split at h
      · cases h
      · rename_i hg
        refine go (fun η w x' y' hx hy => ?_) h
        obtain ⟨a, _, rfl⟩ := γ_agg hx
        obtain ⟨b, _, rfl⟩ := γ_agg hy
        exact eqGuard_agg (guardT_spec hC.toOK 30 t hg _ hC.depth)
    · rename_i n1 n2
      refine go (fun η w x' y' hx hy => eqGuard_idle (fun e => ?_) (fun a b e => ?_)) h
      · rcases (hval η x' y' hx hy).1 e with ⟨rfl, rfl⟩ | ⟨i, hi⟩ | ⟨i, hi⟩
        · exact n1 rfl rfl
        · exact (noAtom h).1 i hi
        · exact (noAtom h).2 i hi
      · obtain ⟨l, r, rfl, rfl⟩ := (hval η x' y' hx hy).2 a b e
        exact n2 _ _ rfl rfl
end
end Go.Proofs.YthidihigidchgaaGreatDoor.Sy
