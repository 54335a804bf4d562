-- Written by this session's program wip/gprint.py, which drives the kit's print.py and puts the session's own texts in for some functions.
import Derived.Test.YtpoldofghcmfnaaQx0
namespace Go.Proofs.Ytpoldofghcmfnaa.Q
open Go.RowKit Go.Proofs.YtpoldofghcmfnaaW.PrintWords Go.Proofs.YtpoldofghcmfnaaW.PrintLast Go.Proofs.YtpoldofghcmfnaaW.PrintMore
attribute [local go_sem] max2_int min2_int max_two min_two max_three min_three max_four min_four   -- for this text's walks alone
set_option linter.unusedVariables false
set_option linter.unusedSimpArgs false

/-! ### gradineref20_Ahead: function 29 -/
def gradineref20_Ahead.l0 : Nat → List Int → List Int → Int → Option (Bool)
 | 0, _, _, _ => none
 | k + 1, x0, x1, x5 => if x5 < (x0.length : Int) then (if x5 < (x1.length : Int) then (if 0 ≤ x5 then (if (rd x0 x5) = (rd x1 x5) then (gradineref20_Ahead.l0 k x0 x1 (wrap64 (x5 + 1))) else (if x5 = (x0.length : Int) then (some (decide ((x0.length : Int) < (x1.length : Int)))) else (if x5 = (x1.length : Int) then (some (decide ((x0.length : Int) < (x1.length : Int)))) else (some (decide ((rd x0 x5) < (rd x1 x5))))))) else (none)) else (if x5 = (x0.length : Int) then (some (decide ((x0.length : Int) < (x1.length : Int)))) else (if x5 = (x1.length : Int) then (some (decide ((x0.length : Int) < (x1.length : Int)))) else (if 0 ≤ x5 then (none) else (none))))) else (if x5 = (x0.length : Int) then (some (decide ((x0.length : Int) < (x1.length : Int)))) else (if x5 = (x1.length : Int) then (some (decide ((x0.length : Int) < (x1.length : Int)))) else (if 0 ≤ x5 then (none) else (none))))
def gradineref20_Ahead.f (k : Nat) (l0 : List Int) (l1 : List Int) : Option (Bool) := gradineref20_Ahead.l0 k l0 l1 0
set_option maxHeartbeats 8000000 in
set_option maxRecDepth 100000 in
theorem gradineref20_Ahead.calls (k : Nat) (A0 : Option Addr) (c0 : Nat) (l0 : List Int) (A1 : Option Addr) (c1 : Nat) (l1 : List Int) (r : Bool) (w : World) (hr0 : Kd.C (Kd.int .i64) w A0 l0.length l0) (hc0 : l0.length ≤ c0) (hr1 : Kd.C (Kd.int .i64) w A1 l1.length l1) (hc1 : l1.length ≤ c1) (h : gradineref20_Ahead.f k l0 l1 = some r) :
  Calls Try.prog 29 #[.slice A0 l0.length c0, .slice A1 l1.length c1] w fun e w' => e = .returned (.bool r) ∧ Drawn0 w w' := by
 have HR0 := Aside0.mk hr0
 have HC0 := Aside0.mk hc0
 clear hr0 hc0
 have HR1 := Aside0.mk hr1
 have HC1 := Aside0.mk hc1
 clear hr1 hc1
 have H : (gradineref20_Ahead.l0 k l0 l1 0) = some r := h
 clear h
 have H' := Aside0.mk H
 clear H
 go_enter Try.func29, Try.ntmps29
 go_wp2
 repeat (go_quiet (fail); try go_wp2)
 go_loopg [5] k (fun kq v5 w' => ∃ (x5_1 : Int), v5 = .int .i64 x5_1 ∧ Aside0 (gradineref20_Ahead.l0 kq l0 l1 x5_1 = some r) ∧ Aside0 (kq ≤ k) ∧ Drawn0 w w')
 case atStart => exact ⟨(0), (pF), H', ⟨Nat.le_refl _⟩, by repeat (first | exact Drawn0.refl _ | apply Drawn0.step)⟩
 case round =>
  clear H'
  try clear c1
  try clear c2
  try clear p2
  obtain ⟨x5_1, rfl, HA, HK1, ⟨m1, rfl⟩⟩ := hrel
  cases gk with
  | zero => exact absurd HA.out (by simp [gradineref20_Ahead.l0])
  | succ k1 =>
   have H := HA.out
   clear HA
   simp only [gradineref20_Ahead.l0] at H
   by_cases c3 : x5_1 < (l0.length : Int)
   ·rw [if_pos c3] at H
    have c3b0 : decide (x5_1 < (l0.length : Int)) = true := decide_eq_true c3
    clear c3
    by_cases c4 : x5_1 < (l1.length : Int)
    ·rw [if_pos c4] at H
     have c4b0 : decide (x5_1 < (l1.length : Int)) = true := decide_eq_true c4
     clear c4
     by_cases c5 : 0 ≤ x5_1
     ·rw [if_pos c5] at H
      have c5b0 : decide (0 ≤ x5_1) = true := decide_eq_true c5
      clear c5
      by_cases c6 : (rd l0 x5_1) = (rd l1 x5_1)
      ·rw [if_pos c6] at H
       have c6b0 : ((rd l0 x5_1) == (rd l1 x5_1)) = true := beq_iff_eq.mpr c6
       have c6b1 : ((rd l0 x5_1) != (rd l1 x5_1)) = false := bne_eq_false_iff_eq.mpr c6
       clear c6
       have H' := Aside0.mk H
       clear H
       have p318 : 0 ≤ (x5_1 : Int) := of_decide_eq_true pD
       have q318 : x5_1 < (l0.length : Int) := of_decide_eq_true pD
       obtain ⟨ad318, e318, hx318_0⟩ := Kd.at_int HR0.out x5_1 p318 q318
       cases e318
       replace p318 := eq_true p318
       replace q318 := eq_true q318
       have p319 : 0 ≤ (x5_1 : Int) := of_decide_eq_true pD
       have q319 : x5_1 < (l1.length : Int) := of_decide_eq_true pD
       obtain ⟨ad319, e319, hx319_0⟩ := Kd.at_int HR1.out x5_1 p319 q319
       cases e319
       replace p319 := eq_true p319
       replace q319 := eq_true q319
       go_wp2
       repeat (go_quiet (fail); try go_wp2)
       go_roundg k1
       case measure => have := HK1.out; omega
       case rel => exact ⟨(wrap64 (x5_1 + 1)), (pF), H', ⟨by have := HK1.out; omega⟩, by repeat (first | exact Drawn0.refl _ | apply Drawn0.step)⟩
      ·rw [if_neg c6] at H
       have c6b0 : ((rd l0 x5_1) == (rd l1 x5_1)) = false := beq_eq_false_iff_ne.mpr c6
       have c6b1 : ((rd l0 x5_1) != (rd l1 x5_1)) = true := bne_iff_ne.mpr c6
       by_cases c7 : x5_1 = (l0.length : Int)
       ·rw [if_pos c7] at H
        have c7b0 : (x5_1 == (l0.length : Int)) = true := beq_iff_eq.mpr c7
        have c7b1 : (x5_1 != (l0.length : Int)) = false := bne_eq_false_iff_eq.mpr c7
        clear c7
        obtain rfl := Option.some.inj H
        have p318 : 0 ≤ (x5_1 : Int) := of_decide_eq_true pD
        have q318 : x5_1 < (l0.length : Int) := of_decide_eq_true pD
        obtain ⟨ad318, e318, hx318_0⟩ := Kd.at_int HR0.out x5_1 p318 q318
        cases e318
        replace p318 := eq_true p318
        replace q318 := eq_true q318
        have p319 : 0 ≤ (x5_1 : Int) := of_decide_eq_true pD
        have q319 : x5_1 < (l1.length : Int) := of_decide_eq_true pD
        obtain ⟨ad319, e319, hx319_0⟩ := Kd.at_int HR1.out x5_1 p319 q319
        cases e319
        replace p319 := eq_true p319
        replace q319 := eq_true q319
        go_wp2
        repeat (go_quiet (fail); try go_wp2)
        go_ret
        exact ⟨pF, by repeat (first | exact Drawn0.refl _ | apply Drawn0.step)⟩
       ·rw [if_neg c7] at H
        have c7b0 : (x5_1 == (l0.length : Int)) = false := beq_eq_false_iff_ne.mpr c7
        have c7b1 : (x5_1 != (l0.length : Int)) = true := bne_iff_ne.mpr c7
        by_cases c8 : x5_1 = (l1.length : Int)
        ·rw [if_pos c8] at H
         have c8b0 : (x5_1 == (l1.length : Int)) = true := beq_iff_eq.mpr c8
         have c8b1 : (x5_1 != (l1.length : Int)) = false := bne_eq_false_iff_eq.mpr c8
         clear c8
         obtain rfl := Option.some.inj H
         have p318 : 0 ≤ (x5_1 : Int) := of_decide_eq_true pD
         have q318 : x5_1 < (l0.length : Int) := of_decide_eq_true pD
         obtain ⟨ad318, e318, hx318_0⟩ := Kd.at_int HR0.out x5_1 p318 q318
         cases e318
         replace p318 := eq_true p318
         replace q318 := eq_true q318
         have p319 : 0 ≤ (x5_1 : Int) := of_decide_eq_true pD
         have q319 : x5_1 < (l1.length : Int) := of_decide_eq_true pD
         obtain ⟨ad319, e319, hx319_0⟩ := Kd.at_int HR1.out x5_1 p319 q319
         cases e319
         replace p319 := eq_true p319
         replace q319 := eq_true q319
         go_wp2
         repeat (go_quiet (fail); try go_wp2)
         go_ret
         exact ⟨pF, by repeat (first | exact Drawn0.refl _ | apply Drawn0.step)⟩
        ·rw [if_neg c8] at H
         have c8b0 : (x5_1 == (l1.length : Int)) = false := beq_eq_false_iff_ne.mpr c8
         have c8b1 : (x5_1 != (l1.length : Int)) = true := bne_iff_ne.mpr c8
         obtain rfl := Option.some.inj H
         have p318 : 0 ≤ (x5_1 : Int) := of_decide_eq_true pD
         have q318 : x5_1 < (l0.length : Int) := of_decide_eq_true pD
         obtain ⟨ad318, e318, hx318_0⟩ := Kd.at_int HR0.out x5_1 p318 q318
         cases e318
         replace p318 := eq_true p318
         replace q318 := eq_true q318
         have p319 : 0 ≤ (x5_1 : Int) := of_decide_eq_true pD
         have q319 : x5_1 < (l1.length : Int) := of_decide_eq_true pD
         obtain ⟨ad319, e319, hx319_0⟩ := Kd.at_int HR1.out x5_1 p319 q319
         cases e319
         replace p319 := eq_true p319
         replace q319 := eq_true q319
         have p320 : 0 ≤ (x5_1 : Int) := of_decide_eq_true pD
         have q320 : x5_1 < (l0.length : Int) := of_decide_eq_true pD
         obtain ⟨ad320, e320, hx320_0⟩ := Kd.at_int HR0.out x5_1 p320 q320
         obtain rfl : ad318 = ad320 := (by injection e320)
         replace p320 := eq_true p320
         replace q320 := eq_true q320
         have p321 : 0 ≤ (x5_1 : Int) := of_decide_eq_true pD
         have q321 : x5_1 < (l1.length : Int) := of_decide_eq_true pD
         obtain ⟨ad321, e321, hx321_0⟩ := Kd.at_int HR1.out x5_1 p321 q321
         obtain rfl : ad319 = ad321 := (by injection e321)
         replace p321 := eq_true p321
         replace q321 := eq_true q321
         go_wp2
         repeat (go_quiet (fail); try go_wp2)
         go_ret
         exact ⟨pF, by repeat (first | exact Drawn0.refl _ | apply Drawn0.step)⟩
     ·rw [if_neg c5] at H
      exact absurd H (by simp)
    ·rw [if_neg c4] at H
     have c4b0 : decide (x5_1 < (l1.length : Int)) = false := decide_eq_false c4
     clear c4
     by_cases c9 : x5_1 = (l0.length : Int)
     ·rw [if_pos c9] at H
      have c9b0 : (x5_1 == (l0.length : Int)) = true := beq_iff_eq.mpr c9
      have c9b1 : (x5_1 != (l0.length : Int)) = false := bne_eq_false_iff_eq.mpr c9
      clear c9
      obtain rfl := Option.some.inj H
      go_wp2
      repeat (go_quiet (fail); try go_wp2)
      go_ret
      exact ⟨pF, by repeat (first | exact Drawn0.refl _ | apply Drawn0.step)⟩
     ·rw [if_neg c9] at H
      have c9b0 : (x5_1 == (l0.length : Int)) = false := beq_eq_false_iff_ne.mpr c9
      have c9b1 : (x5_1 != (l0.length : Int)) = true := bne_iff_ne.mpr c9
      by_cases c10 : x5_1 = (l1.length : Int)
      ·rw [if_pos c10] at H
       have c10b0 : (x5_1 == (l1.length : Int)) = true := beq_iff_eq.mpr c10
       have c10b1 : (x5_1 != (l1.length : Int)) = false := bne_eq_false_iff_eq.mpr c10
       clear c10
       obtain rfl := Option.some.inj H
       go_wp2
       repeat (go_quiet (fail); try go_wp2)
       go_ret
       exact ⟨pF, by repeat (first | exact Drawn0.refl _ | apply Drawn0.step)⟩
      ·rw [if_neg c10] at H
       have c10b0 : (x5_1 == (l1.length : Int)) = false := beq_eq_false_iff_ne.mpr c10
       have c10b1 : (x5_1 != (l1.length : Int)) = true := bne_iff_ne.mpr c10
       by_cases c11 : 0 ≤ x5_1
       ·rw [if_pos c11] at H
        have c11b0 : decide (0 ≤ x5_1) = true := decide_eq_true c11
        clear c11
        exact absurd H (by simp)
       ·rw [if_neg c11] at H
        exact absurd H (by simp)
   ·rw [if_neg c3] at H
    have c3b0 : decide (x5_1 < (l0.length : Int)) = false := decide_eq_false c3
    clear c3
    by_cases c12 : x5_1 = (l0.length : Int)
    ·rw [if_pos c12] at H
     have c12b0 : (x5_1 == (l0.length : Int)) = true := beq_iff_eq.mpr c12
     have c12b1 : (x5_1 != (l0.length : Int)) = false := bne_eq_false_iff_eq.mpr c12
     clear c12
     obtain rfl := Option.some.inj H
     go_wp2
     repeat (go_quiet (fail); try go_wp2)
     go_ret
     exact ⟨pF, by repeat (first | exact Drawn0.refl _ | apply Drawn0.step)⟩
    ·rw [if_neg c12] at H
     have c12b0 : (x5_1 == (l0.length : Int)) = false := beq_eq_false_iff_ne.mpr c12
     have c12b1 : (x5_1 != (l0.length : Int)) = true := bne_iff_ne.mpr c12
     by_cases c13 : x5_1 = (l1.length : Int)
     ·rw [if_pos c13] at H
      have c13b0 : (x5_1 == (l1.length : Int)) = true := beq_iff_eq.mpr c13
      have c13b1 : (x5_1 != (l1.length : Int)) = false := bne_eq_false_iff_eq.mpr c13
      clear c13
      obtain rfl := Option.some.inj H
      go_wp2
      repeat (go_quiet (fail); try go_wp2)
      go_ret
      exact ⟨pF, by repeat (first | exact Drawn0.refl _ | apply Drawn0.step)⟩
     ·rw [if_neg c13] at H
      have c13b0 : (x5_1 == (l1.length : Int)) = false := beq_eq_false_iff_ne.mpr c13
      have c13b1 : (x5_1 != (l1.length : Int)) = true := bne_iff_ne.mpr c13
      by_cases c14 : 0 ≤ x5_1
      ·rw [if_pos c14] at H
       exact absurd H (by simp)
      ·rw [if_neg c14] at H
       exact absurd H (by simp)

end Go.Proofs.Ytpoldofghcmfnaa.Q
