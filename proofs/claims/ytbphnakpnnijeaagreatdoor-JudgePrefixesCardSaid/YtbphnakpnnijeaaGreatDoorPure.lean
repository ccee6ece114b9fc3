/- The plain law: both Prefix functions tell the same number and the same verdict, either way round: for any two lists of at most 3000 entries. -/
import Derived.Test.YtbphnakpnnijeaaGreatDoorPfx
namespace Go.Proofs.YtbphnakpnnijeaaGreatDoor.Own
open Go.RowKit Go.Proofs.YtbphnakpnnijeaaGreatDoorW.PrintWords
set_option linter.unusedVariables false
/-! The plain law: how far two logs are the same. -/
def same (x y : S40) : Bool := x.f0 == y.f0 && x.f1.toList == y.f1.toList
theorem same_comm (x y : S40) : same x y = same y x := by
  unfold same
  rw [Bool.eq_iff_iff]
  simp only [Bool.and_eq_true, beq_iff_eq]
  exact ⟨fun h => ⟨h.1.symm, h.2.symm⟩, fun h => ⟨h.1.symm, h.2.symm⟩⟩
def com : List S40 → List S40 → Nat
  | x :: xs, y :: ys => if same x y = true then com xs ys + 1 else 0
  | _, _ => 0
theorem com_comm : ∀ (a b : List S40), com a b = com b a
  | [], [] => rfl
  | [], _ :: _ => rfl
  | _ :: _, [] => rfl
  | x :: xs, y :: ys => by simp only [com]; rw [same_comm x y, com_comm xs ys]
theorem com_le : ∀ (a b : List S40), com a b ≤ a.length ∧ com a b ≤ b.length
  | [], [] => ⟨Nat.le_refl _, Nat.le_refl _⟩
  | [], _ :: _ => ⟨Nat.zero_le _, Nat.zero_le _⟩
  | _ :: _, [] => ⟨Nat.zero_le _, Nat.zero_le _⟩
  | x :: xs, y :: ys => by
    simp only [com]
    have := com_le xs ys
    split <;> simp <;> omega
theorem com_eq : ∀ (a b : List S40) (i : Nat), i < com a b → same (a.getD i z40) (b.getD i z40) = true
  | [], [], i, h => by simp [com] at h
  | [], _ :: _, i, h => by simp [com] at h
  | _ :: _, [], i, h => by simp [com] at h
  | x :: xs, y :: ys, i, h => by
    simp only [com] at h
    split at h
    · rename_i hs
      cases i with
      | zero => simpa using hs
      | succ i => simpa using com_eq xs ys i (by omega)
    · omega
theorem com_ne : ∀ (a b : List S40), com a b < a.length → com a b < b.length → same (a.getD (com a b) z40) (b.getD (com a b) z40) = false
  | [], _, h, _ => by simp at h
  | _ :: _, [], _, h => by simp at h
  | x :: xs, y :: ys, h1, h2 => by
    simp only [com] at h1 h2 ⊢
    split
    · rename_i hs
      rw [if_pos hs] at h1 h2
      simpa using com_ne xs ys (by simpa using h1) (by simpa using h2)
    · rename_i hs
      simpa using hs
def whole (a b : List S40) : Bool := decide (com a b = a.length) || decide (com a b = b.length)
theorem wrap_in {i : Int} (h0 : 0 ≤ i) (h : i < 3000) : wrap64 (i + 1) = i + 1 := by
  unfold wrap64
  omega
theorem rd_at (l : List S40) (i : Nat) : rd_T40 l (i : Int) = l.getD i z40 := by simp [rd_T40]
theorem judge_loop (a b : List S40) (ha : a.length ≤ 3000) (hb : b.length ≤ 3000) (d : Nat) : ∀ (k i : Nat), i + d = com a b → d < k → judge_Prefix.l0 k a b (i : Int) = some ((com a b : Int), whole a b) := by
  have hle := com_le a b
  induction d with
  | zero =>
    intro k i hi hk
    obtain ⟨k, rfl⟩ : ∃ m, k = m + 1 := ⟨k - 1, by omega⟩
    have hi : i = com a b := by omega
    subst hi
    simp only [judge_Prefix.l0]
    have hw : ∀ (h : ¬ (com a b < a.length ∧ com a b < b.length)), (if ((com a b : Nat) : Int) = (a.length : Int) then (some (((com a b : Nat) : Int), true)) else (some (((com a b : Nat) : Int), (((com a b : Nat) : Int) == (b.length : Int))))) = some ((com a b : Int), whole a b) := by
      intro h
      unfold whole
      by_cases e : com a b = a.length
      · rw [if_pos (by omega)]; simp [e]
      · rw [if_neg (by omega)]
        have : com a b = b.length := by omega
        simp [this]
    by_cases h1 : com a b < a.length
    · rw [if_pos (by omega)]
      by_cases h2 : com a b < b.length
      · rw [if_pos (by omega), if_pos (by omega), rd_at, rd_at]
        have hne := com_ne a b h1 h2
        unfold same at hne
        rw [if_neg (by rw [hne]; simp), if_neg (by omega)]
        unfold whole
        have e1 : com a b ≠ a.length := by omega
        have e2 : com a b ≠ b.length := by omega
        have e3 : ((com a b : Int) == (b.length : Int)) = false := by simp; omega
        simp [e1, e2, e3]
      · rw [if_neg (by omega)]; exact hw (by omega)
    · rw [if_neg (by omega)]; exact hw (by omega)
  | succ d ih =>
    intro k i hi hk
    obtain ⟨k, rfl⟩ : ∃ m, k = m + 1 := ⟨k - 1, by omega⟩
    simp only [judge_Prefix.l0]
    have heq := com_eq a b i (by omega)
    unfold same at heq
    rw [if_pos (by omega), if_pos (by omega), if_pos (by omega), rd_at, rd_at, if_pos heq, wrap_in (by omega) (by omega)]
    have := ih k (i + 1) (by omega) (by omega)
    rw [← this]; rfl
theorem ref_loop (a b : List S40) (ha : a.length ≤ 3000) (hb : b.length ≤ 3000) (d : Nat) : ∀ (k i : Nat), i + d = com a b → 2 * d + 1 < k → prompterref30_Prefix.l0 k a b (i : Int) (i : Int) = some ((com a b : Int), whole a b) := by
  have hle := com_le a b
  induction d with
  | zero =>
    intro k i hi hk
    obtain ⟨k, rfl⟩ : ∃ m, k = m + 2 := ⟨k - 2, by omega⟩
    have hi : i = com a b := by omega
    subst hi
    simp only [prompterref30_Prefix.l0, prompterref30_Prefix.j1]
    have hw : ∀ (h : ¬ (com a b < a.length ∧ com a b < b.length)), whole a b = true := by
      intro h
      unfold whole
      by_cases e : com a b = a.length
      · simp [e]
      · have : com a b = b.length := by omega
        simp [this]
    by_cases h1 : com a b < a.length
    · rw [if_pos (by omega)]
      by_cases h2 : com a b < b.length
      · rw [if_pos (by simp; omega), if_pos (by omega), if_pos (by omega), if_pos (by omega), rd_at, rd_at]
        have hne := com_ne a b h1 h2
        unfold same at hne
        have e0 : ((!(((a.getD (com a b) z40).f0) == ((b.getD (com a b) z40).f0))) || (!((((a.getD (com a b) z40).f1).toList) == (((b.getD (com a b) z40).f1).toList)))) = true := by
          rw [← Bool.not_and, hne]; rfl
        rw [if_pos e0]
        unfold whole
        have e1 : com a b ≠ a.length := by omega
        have e2 : com a b ≠ b.length := by omega
        simp [e1, e2]
      · rw [if_neg (by simp; omega), hw (by omega)]
    · rw [if_neg (by omega), if_neg (by simp), hw (by omega)]
  | succ d ih =>
    intro k i hi hk
    obtain ⟨k, rfl⟩ : ∃ m, k = m + 2 := ⟨k - 2, by omega⟩
    simp only [prompterref30_Prefix.l0, prompterref30_Prefix.j1]
    have heq := com_eq a b i (by omega)
    unfold same at heq
    have e0 : ¬ ((!(((a.getD i z40).f0) == ((b.getD i z40).f0))) || (!((((a.getD i z40).f1).toList) == (((b.getD i z40).f1).toList)))) = true := by
      rw [← Bool.not_and, heq]; simp
    rw [if_pos (by omega), if_pos (by simp; omega), if_pos (by omega), if_pos (by omega), if_pos (by omega), rd_at, rd_at, if_neg e0, wrap_in (by omega) (by omega)]
    have := ih k (i + 1) (by omega) (by omega)
    rw [← this]; rfl
theorem judge_is (a b : List S40) (ha : a.length ≤ 3000) (hb : b.length ≤ 3000) : judge_Prefix.f 3001 a b = some ((com a b : Int), whole a b) := by
  have hle := com_le a b
  exact judge_loop a b ha hb (com a b) 3001 0 (by omega) (by omega)
theorem ref_is (a b : List S40) (ha : a.length ≤ 3000) (hb : b.length ≤ 3000) : prompterref30_Prefix.f 6002 a b = some ((com a b : Int), whole a b) := by
  have hle := com_le a b
  exact ref_loop a b ha hb (com a b) 6002 0 (by omega) (by omega)
theorem whole_comm (a b : List S40) : whole a b = whole b a := by
  unfold whole
  rw [com_comm a b, Bool.or_comm]
end Go.Proofs.YtbphnakpnnijeaaGreatDoor.Own
