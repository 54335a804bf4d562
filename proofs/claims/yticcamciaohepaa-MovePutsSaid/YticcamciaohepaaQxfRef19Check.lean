-- By wip/gprint.py (this session's), out of the kit's print.py.
import Derived.Test.YticcamciaohepaaQx0
namespace Go.Proofs.Yticcamciaohepaa.Q
open Go.RowKit Go.Proofs.YticcamciaohepaaW.PrintWords Go.Proofs.YticcamciaohepaaW.PrintLast Go.Proofs.YticcamciaohepaaW.PrintMore
attribute [local go_sem] max2_int min2_int max_two min_two max_three min_three max_four min_four   -- for this text's walks alone
set_option linter.unusedVariables false
set_option linter.unusedSimpArgs false

/-! ### gradineref19_Check: function 14 -/
mutual
def gradineref19_Check.l0 : Nat → List Int → Int → Int → Option (Int)
 | 0, _, _, _ => none
 | k + 1, x0, x10, x11 => if x11 < x10 then (if 0 ≤ x11 then (if x11 < (x0.length : Int) then (if (rd x0 x11) < 1 then (some 8) else (gradineref19_Check.l0 k x0 x10 (wrap64 (x11 + 1)))) else (none)) else (none)) else (gradineref19_Check.l1 k x0 1 (x0.length : Int) 0)
def gradineref19_Check.l1 : Nat → List Int → Int → Int → Int → Option (Int)
 | 0, _, _, _, _ => none
 | k + 1, x0, x4, x21, x22 => if x22 < x21 then (if 0 ≤ x22 then (if x22 < (x0.length : Int) then (if (rd x0 x22) > 64 then (some 12) else (if (wrap64 (x4 * (rd x0 x22))) > 64 then (some 12) else (gradineref19_Check.l1 k x0 (wrap64 (x4 * (rd x0 x22))) x21 (wrap64 (x22 + 1))))) else (none)) else (none)) else (some 0)
end
def gradineref19_Check.f (k : Nat) (l0 : List Int) : Option (Int) := if (l0.length : Int) > 6 then (some 9) else (gradineref19_Check.l0 k l0 (l0.length : Int) 0)
set_option maxHeartbeats 8000000 in
set_option maxRecDepth 100000 in
theorem gradineref19_Check.calls (k : Nat) (A0 : Option Addr) (c0 : Nat) (l0 : List Int) (r : Int) (w : World) (hr0 : Kd.C (Kd.int .i64) w A0 l0.length l0) (hc0 : l0.length ≤ c0) (h : gradineref19_Check.f k l0 = some r) :
  Calls Try.prog 14 #[.slice A0 l0.length c0] w fun e w' => e = .returned (.int .i64 r) ∧ Drawn0 w w' := by
 have HR0 := aM hr0
 have HC0 := aM hc0
 clear hr0 hc0
 have H : (if (l0.length : Int) > 6 then (some 9) else (gradineref19_Check.l0 k l0 (l0.length : Int) 0)) = some r := h
 clear h
 by_cases c2 : (l0.length : Int) > 6
 ·rw [if_pos c2] at H
  have za : decide (6 < (l0.length : Int)) = true := decide_eq_true c2
  have zb : decide (6 < l0.length) = true := decide_eq_true (by omega)
  clear c2
  obtain rfl := Option.some.inj H
  go_enter Try.func14, Try.ntmps14
  go_wp2
  go_ret
  exact ⟨pF, by repeat (first | exact Drawn0.refl _ | apply Drawn0.step)⟩
 rw [if_neg c2] at H
 have za : decide (6 < (l0.length : Int)) = false := decide_eq_false c2
 have zb : decide (6 < l0.length) = false := decide_eq_false (by omega)
 clear c2
 have H' := aM H
 clear H
 go_enter Try.func14, Try.ntmps14
 go_wp2
 go_loopg [11] k (fun kq v11 w' => ∃ (x11_1 : Int), v11 = .int .i64 x11_1 ∧ Aside0 (gradineref19_Check.l0 kq l0 (l0.length : Int) x11_1 = some r) ∧ Aside0 (kq ≤ k) ∧ Drawn0 w w')
 case atStart => exact ⟨(0), (pF), H', ⟨Nat.le_refl _⟩, by repeat (first | exact Drawn0.refl _ | apply Drawn0.step)⟩
 case round =>
  clear H'
  try clear za
  try clear zb
  obtain ⟨x11_1, rfl, HA, HK1, ⟨m1, rfl⟩⟩ := hrel
  cases gk with
  | zero => exact absurd HA.out (by simp [gradineref19_Check.l0])
  | succ k1 =>
   have H := HA.out
   clear HA
   simp only [gradineref19_Check.l0] at H
   by_cases c3 : x11_1 < (l0.length : Int)
   ·rw [if_pos c3] at H
    have zc : decide (x11_1 < (l0.length : Int)) = true := decide_eq_true c3
    clear c3
    by_cases c4 : 0 ≤ x11_1
    rotate_left
    ·rw [if_neg c4] at H
     exact absurd H (by simp)
    rw [if_pos c4] at H
    have c4b0 : decide (0 ≤ x11_1) = true := decide_eq_true c4
    clear c4
    by_cases c5 : x11_1 < (l0.length : Int)
    rotate_left
    ·rw [if_neg c5] at H
     exact absurd H (by simp)
    rw [if_pos c5] at H
    have c5b0 : decide (x11_1 < (l0.length : Int)) = true := decide_eq_true c5
    clear c5
    by_cases c6 : (rd l0 x11_1) < 1
    ·rw [if_pos c6] at H
     have c6b0 : decide ((rd l0 x11_1) < 1) = true := decide_eq_true c6
     clear c6
     obtain rfl := Option.some.inj H
     have p483 : 0 ≤ (x11_1 : Int) := of_decide_eq_true pD
     have q483 : x11_1 < (l0.length : Int) := of_decide_eq_true pD
     obtain ⟨ad483, e483, hx483_0⟩ := Kd.at_int HR0.out x11_1 p483 q483
     cases e483
     replace p483 := eq_true p483
     replace q483 := eq_true q483
     go_wp2
     go_ret
     exact ⟨pF, by repeat (first | exact Drawn0.refl _ | apply Drawn0.step)⟩
    rw [if_neg c6] at H
    have c6b0 : decide ((rd l0 x11_1) < 1) = false := decide_eq_false c6
    clear c6
    have H' := aM H
    clear H
    have p483 : 0 ≤ (x11_1 : Int) := of_decide_eq_true pD
    have q483 : x11_1 < (l0.length : Int) := of_decide_eq_true pD
    obtain ⟨ad483, e483, hx483_0⟩ := Kd.at_int HR0.out x11_1 p483 q483
    cases e483
    replace p483 := eq_true p483
    replace q483 := eq_true q483
    go_wp2
    go_roundg k1
    case measure => have := HK1.out; omega
    case rel => exact ⟨(wrap64 (x11_1 + 1)), (pF), H', ⟨by have := HK1.out; omega⟩, by repeat (first | exact Drawn0.refl _ | apply Drawn0.step)⟩
   rw [if_neg c3] at H
   have zc : decide (x11_1 < (l0.length : Int)) = false := decide_eq_false c3
   clear c3
   have H' := aM H
   clear H
   go_wp2
   go_loopg [4, 22] k1 (fun kq v4 v22 w' => ∃ (x4_2 : Int) (x22_2 : Int), v4 = .int .i64 x4_2 ∧ v22 = .int .i64 x22_2 ∧ Aside0 (gradineref19_Check.l1 kq l0 x4_2 (l0.length : Int) x22_2 = some r) ∧ Aside0 (kq ≤ k1) ∧ Drawn0 w w')
   case atStart => exact ⟨(1), (0), (pF), (pF), H', ⟨Nat.le_refl _⟩, by repeat (first | exact Drawn0.refl _ | apply Drawn0.step)⟩
   case round =>
    clear H'
    try clear zc
    obtain ⟨x4_2, x22_2, rfl, rfl, HA, HK2, ⟨m2, rfl⟩⟩ := hrel
    cases gk with
    | zero => exact absurd HA.out (by simp [gradineref19_Check.l1])
    | succ k2 =>
     have H := HA.out
     clear HA
     simp only [gradineref19_Check.l1] at H
     by_cases c7 : x22_2 < (l0.length : Int)
     rotate_left
     ·rw [if_neg c7] at H
      have c7b0 : decide (x22_2 < (l0.length : Int)) = false := decide_eq_false c7
      clear c7
      obtain rfl := Option.some.inj H
      go_wp2
      go_ret
      exact ⟨pF, by repeat (first | exact Drawn0.refl _ | apply Drawn0.step)⟩

     rw [if_pos c7] at H
     have c7b0 : decide (x22_2 < (l0.length : Int)) = true := decide_eq_true c7
     clear c7
     by_cases c8 : 0 ≤ x22_2
     rotate_left
     ·rw [if_neg c8] at H
      exact absurd H (by simp)
     rw [if_pos c8] at H
     have c8b0 : decide (0 ≤ x22_2) = true := decide_eq_true c8
     clear c8
     by_cases c9 : x22_2 < (l0.length : Int)
     rotate_left
     ·rw [if_neg c9] at H
      exact absurd H (by simp)
     rw [if_pos c9] at H
     have c9b0 : decide (x22_2 < (l0.length : Int)) = true := decide_eq_true c9
     clear c9
     by_cases c10 : (rd l0 x22_2) > 64
     ·rw [if_pos c10] at H
      have c10b0 : decide (64 < (rd l0 x22_2)) = true := decide_eq_true c10
      clear c10
      obtain rfl := Option.some.inj H
      have p484 : 0 ≤ (x22_2 : Int) := of_decide_eq_true pD
      have q484 : x22_2 < (l0.length : Int) := of_decide_eq_true pD
      obtain ⟨ad484, e484, hx484_0⟩ := Kd.at_int HR0.out x22_2 p484 q484
      cases e484
      replace p484 := eq_true p484
      replace q484 := eq_true q484
      go_wp2
      go_ret
      exact ⟨pF, by repeat (first | exact Drawn0.refl _ | apply Drawn0.step)⟩
     rw [if_neg c10] at H
     have c10b0 : decide (64 < (rd l0 x22_2)) = false := decide_eq_false c10
     clear c10
     by_cases c11 : (wrap64 (x4_2 * (rd l0 x22_2))) > 64
     ·rw [if_pos c11] at H
      have c11b0 : decide (64 < (wrap64 (x4_2 * (rd l0 x22_2)))) = true := decide_eq_true c11
      clear c11
      obtain rfl := Option.some.inj H
      have p484 : 0 ≤ (x22_2 : Int) := of_decide_eq_true pD
      have q484 : x22_2 < (l0.length : Int) := of_decide_eq_true pD
      obtain ⟨ad484, e484, hx484_0⟩ := Kd.at_int HR0.out x22_2 p484 q484
      cases e484
      replace p484 := eq_true p484
      replace q484 := eq_true q484
      have p485 : 0 ≤ (x22_2 : Int) := of_decide_eq_true pD
      have q485 : x22_2 < (l0.length : Int) := of_decide_eq_true pD
      obtain ⟨ad485, e485, hx485_0⟩ := Kd.at_int HR0.out x22_2 p485 q485
      obtain rfl : ad484 = ad485 := (by injection e485)
      replace p485 := eq_true p485
      replace q485 := eq_true q485
      go_wp2
      go_ret
      exact ⟨pF, by repeat (first | exact Drawn0.refl _ | apply Drawn0.step)⟩
     rw [if_neg c11] at H
     have c11b0 : decide (64 < (wrap64 (x4_2 * (rd l0 x22_2)))) = false := decide_eq_false c11
     clear c11
     have H' := aM H
     clear H
     have p484 : 0 ≤ (x22_2 : Int) := of_decide_eq_true pD
     have q484 : x22_2 < (l0.length : Int) := of_decide_eq_true pD
     obtain ⟨ad484, e484, hx484_0⟩ := Kd.at_int HR0.out x22_2 p484 q484
     cases e484
     replace p484 := eq_true p484
     replace q484 := eq_true q484
     have p485 : 0 ≤ (x22_2 : Int) := of_decide_eq_true pD
     have q485 : x22_2 < (l0.length : Int) := of_decide_eq_true pD
     obtain ⟨ad485, e485, hx485_0⟩ := Kd.at_int HR0.out x22_2 p485 q485
     obtain rfl : ad484 = ad485 := (by injection e485)
     replace p485 := eq_true p485
     replace q485 := eq_true q485
     have p486 : 0 ≤ (x22_2 : Int) := of_decide_eq_true pD
     have q486 : x22_2 < (l0.length : Int) := of_decide_eq_true pD
     obtain ⟨ad486, e486, hx486_0⟩ := Kd.at_int HR0.out x22_2 p486 q486
     obtain rfl : ad484 = ad486 := (by injection e486)
     replace p486 := eq_true p486
     replace q486 := eq_true q486
     go_wp2
     go_roundg k2
     case measure => have := HK1.out; have := HK2.out; omega
     case rel => exact ⟨(wrap64 (x4_2 * (rd l0 x22_2))), (wrap64 (x22_2 + 1)), (pF), (pF), H', ⟨by have := HK1.out; have := HK2.out; omega⟩, by repeat (first | exact Drawn0.refl _ | apply Drawn0.step)⟩
end Go.Proofs.Yticcamciaohepaa.Q
