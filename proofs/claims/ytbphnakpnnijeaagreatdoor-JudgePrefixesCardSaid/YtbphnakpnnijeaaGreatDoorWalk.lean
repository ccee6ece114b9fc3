/- The law JudgePrefixes returns true and turns nothing that was there: for every two rows of entries that are read, provided that awake returns true. -/
import Derived.Test.YtbphnakpnnijeaaGreatDoorPure
namespace Go.Proofs.YtbphnakpnnijeaaGreatDoor.Own
open Go.RowKit Go.Proofs.YtbphnakpnnijeaaGreatDoorW.PrintWords
set_option linter.unusedVariables false
set_option linter.unusedSimpArgs false
def Awake : Prop := ∀ w : World, Calls Tryz.prog 4 #[] w fun e w' => e = .returned (.bool true) ∧ Below w.heap.size w w'
theorem Awake.calls (h : Awake) (w : World) : Calls Tryz.prog 4 #[] w fun e w' => e = .returned (.bool true) ∧ Below w.heap.size w w' := h w
theorem below_drawn {n : Nat} {w a b : World} (h : Below n w a) (h' : Drawn0 a b) : Below n w b := by
  obtain ⟨m, rfl⟩ := h'
  induction m with
  | zero => exact h
  | succ m ih => rw [← World.drew_drewN]; exact ih.drew
theorem judge_at (l0 l1 : List S40) (A0 A1 : Option Addr) (c0 c1 : Nat) (w W : World) (hr0 : Aside0 (Kd.C k40 w A0 l0.length l0)) (hc0 : Aside0 (l0.length ≤ c0)) (hr1 : Aside0 (Kd.C k40 w A1 l1.length l1)) (hc1 : Aside0 (l1.length ≤ c1)) (h0 : Aside0 (l0.length ≤ 3000)) (h1 : Aside0 (l1.length ≤ 3000))
    (hb : Aside0 (Below w.heap.size w W)) : Calls Tryz.prog 5 #[.slice A0 l0.length c0, .slice A1 l1.length c1] W fun e w' => e = .returned (.tuple #[.int .i64 (com l0 l1 : Int), .bool (whole l0 l1)]) ∧ Aside0 (Below w.heap.size w w') :=
  (judge_Prefix.calls 3001 A0 c0 l0 A1 c1 l1 _ _ W (Kd.C_below hr0.out hb.out) hc0.out (Kd.C_below hr1.out hb.out) hc1.out (judge_is l0 l1 h0.out h1.out)).mono fun e w' h => ⟨h.1, ⟨below_drawn hb.out h.2⟩⟩
theorem judge_back (l0 l1 : List S40) (A0 A1 : Option Addr) (c0 c1 : Nat) (w W : World) (hr0 : Aside0 (Kd.C k40 w A0 l0.length l0)) (hc0 : Aside0 (l0.length ≤ c0)) (hr1 : Aside0 (Kd.C k40 w A1 l1.length l1)) (hc1 : Aside0 (l1.length ≤ c1)) (h0 : Aside0 (l0.length ≤ 3000)) (h1 : Aside0 (l1.length ≤ 3000))
    (hb : Aside0 (Below w.heap.size w W)) : Calls Tryz.prog 5 #[.slice A1 l1.length c1, .slice A0 l0.length c0] W fun e w' => e = .returned (.tuple #[.int .i64 (com l0 l1 : Int), .bool (whole l0 l1)]) ∧ Aside0 (Below w.heap.size w w') := by
  rw [com_comm l0 l1, whole_comm l0 l1]
  exact judge_at l1 l0 A1 A0 c1 c0 w W hr1 hc1 hr0 hc0 h1 h0 hb
theorem ref_at (l0 l1 : List S40) (A0 A1 : Option Addr) (c0 c1 : Nat) (w W : World) (hr0 : Aside0 (Kd.C k40 w A0 l0.length l0)) (hc0 : Aside0 (l0.length ≤ c0)) (hr1 : Aside0 (Kd.C k40 w A1 l1.length l1)) (hc1 : Aside0 (l1.length ≤ c1)) (h0 : Aside0 (l0.length ≤ 3000)) (h1 : Aside0 (l1.length ≤ 3000))
    (hb : Aside0 (Below w.heap.size w W)) : Calls Tryz.prog 6 #[.slice A0 l0.length c0, .slice A1 l1.length c1] W fun e w' => e = .returned (.tuple #[.int .i64 (com l0 l1 : Int), .bool (whole l0 l1)]) ∧ Aside0 (Below w.heap.size w w') :=
  (prompterref30_Prefix.calls 6002 A0 c0 l0 A1 c1 l1 _ _ W (Kd.C_below hr0.out hb.out) hc0.out (Kd.C_below hr1.out hb.out) hc1.out (ref_is l0 l1 h0.out h1.out)).mono fun e w' h => ⟨h.1, ⟨below_drawn hb.out h.2⟩⟩
theorem awake_at (h : Awake) (w : World) : Calls Tryz.prog 4 #[] w fun e w' => e = .returned (.bool true) ∧ Aside0 (Below w.heap.size w w') := (h w).mono fun e w' h => ⟨h.1, ⟨h.2⟩⟩
set_option maxHeartbeats 8000000 in
set_option maxRecDepth 100000 in
theorem law_walk (hawake : Awake) (A0 : Option Addr) (c0 : Nat) (l0 : List S40) (A1 : Option Addr) (c1 : Nat) (l1 : List S40) (w : World) (hr0 : Kd.C k40 w A0 l0.length l0) (hc0 : l0.length ≤ c0) (hr1 : Kd.C k40 w A1 l1.length l1) (hc1 : l1.length ≤ c1) :
    Calls Tryz.prog 3 #[.slice A0 l0.length c0, .slice A1 l1.length c1] w fun e w' => e = .returned (.bool true) ∧ Below w.heap.size w w' := by
  have HR0 := Aside0.mk hr0
  have HC0 := Aside0.mk hc0
  clear hr0 hc0
  have HR1 := Aside0.mk hr1
  have HC1 := Aside0.mk hc1
  clear hr1 hc1
  by_cases g0 : (3000 : Int) < (l0.length : Int)
  · have d0 : decide ((3000 : Int) < (l0.length : Int)) = true := decide_eq_true g0
    clear g0
    go_enter Tryz.func3, Tryz.ntmps3
    go_wp2_with (first | (go_at_call 4; (with_reducible refine (awake_at hawake _).mono ?_); rintro e w1 ⟨rfl, hb⟩))
    all_goals go_ret
    all_goals exact ⟨rfl, hb.out⟩
  · have d0 : decide ((3000 : Int) < (l0.length : Int)) = false := decide_eq_false g0
    have G0 : Aside0 (l0.length ≤ 3000) := ⟨by omega⟩
    clear g0
    by_cases g1 : (3000 : Int) < (l1.length : Int)
    · have d1 : decide ((3000 : Int) < (l1.length : Int)) = true := decide_eq_true g1
      clear g1
      go_enter Tryz.func3, Tryz.ntmps3
      go_wp2_with (first | (go_at_call 4; (with_reducible refine (awake_at hawake _).mono ?_); rintro e w1 ⟨rfl, hb⟩))
      all_goals go_ret
      all_goals exact ⟨rfl, hb.out⟩
    · have d1 : decide ((3000 : Int) < (l1.length : Int)) = false := decide_eq_false g1
      have G1 : Aside0 (l1.length ≤ 3000) := ⟨by omega⟩
      clear g1
      go_enter Tryz.func3, Tryz.ntmps3
      go_wp2_with (first | (go_at_call 4; (with_reducible refine (awake_at hawake _).mono ?_); rintro e w1 ⟨rfl, hb⟩) | (go_at_call 5; (with_reducible refine (judge_at l0 l1 A0 A1 c0 c1 w _ HR0 HC0 HR1 HC1 G0 G1 (by assumption)).mono ?_); rintro e w2 ⟨rfl, hb2⟩) | (go_at_call 5; (with_reducible refine (judge_back l0 l1 A0 A1 c0 c1 w _ HR0 HC0 HR1 HC1 G0 G1 (by assumption)).mono ?_); rintro e w3 ⟨rfl, hb3⟩) | (go_at_call 6; (with_reducible refine (ref_at l0 l1 A0 A1 c0 c1 w _ HR0 HC0 HR1 HC1 G0 G1 (by assumption)).mono ?_); rintro e w4 ⟨rfl, hb4⟩))
      all_goals go_ret
      all_goals exact ⟨by first | rfl | simp, hb4.out⟩
end Go.Proofs.YtbphnakpnnijeaaGreatDoor.Own
