-- By wip/gprint.py (this session's), out of the kit's print.py.
import Derived.Test.YtkohdojiockejaaQx0
namespace Go.Proofs.Ytkohdojiockejaa.Q
open Go.RowKit Go.Proofs.YtkohdojiockejaaW.PrintWords Go.Proofs.YtkohdojiockejaaW.PrintLast Go.Proofs.YtkohdojiockejaaW.PrintMore
attribute [local go_sem] max2_int min2_int max_two min_two max_three min_three max_four min_four   -- for this text's walks alone
set_option linter.unusedVariables false
set_option linter.unusedSimpArgs false

/-! ### gradinelaw45_many: function 6 -/
def gradinelaw45_many.l0 : Nat → List (S45) → Int → Int → Option (Bool)
 | 0, _, _, _ => none
 | k + 1, x0, x5, x6 => if x6 < x5 then (if 0 ≤ x6 then (if x6 < (x0.length : Int) then (if (((rd_T45 x0 x6).f3).length : Int) > 300 then (some true) else (if (((rd_T45 x0 x6).f5).length : Int) > 300 then (some true) else (if (((rd_T45 x0 x6).f6).length : Int) > 300 then (some true) else (if (((rd_T45 x0 x6).f4.f9).length : Int) > 300 then (some true) else (gradinelaw45_many.l0 k x0 x5 (wrap64 (x6 + 1))))))) else (none)) else (none)) else (some (decide ((x0.length : Int) > 210)))
def gradinelaw45_many.f (k : Nat) (l0 : List (S45)) : Option (Bool) := gradinelaw45_many.l0 k l0 (l0.length : Int) 0
set_option maxHeartbeats 8000000 in
set_option maxRecDepth 100000 in
theorem gradinelaw45_many.calls (k : Nat) (A0 : Option Addr) (c0 : Nat) (l0 : List (S45)) (r : Bool) (w : World) (hr0 : Kd.C k45 w A0 l0.length l0) (hc0 : l0.length ≤ c0) (h : gradinelaw45_many.f k l0 = some r) :
  Calls Try.prog 6 #[.slice A0 l0.length c0] w fun e w' => e = .returned (.bool r) ∧ Drawn0 w w' := by
 have HR0 := aM hr0
 have HC0 := aM hc0
 clear hr0 hc0
 have H : (gradinelaw45_many.l0 k l0 (l0.length : Int) 0) = some r := h
 clear h
 have H' := aM H
 clear H
 go_enter Try.func6, Try.ntmps6
 go_wp2
 go_loopg [6] k (fun kq v6 w' => ∃ (x6_1 : Int), v6 = .int .i64 x6_1 ∧ Aside0 (gradinelaw45_many.l0 kq l0 (l0.length : Int) x6_1 = some r) ∧ Aside0 (kq ≤ k) ∧ Drawn0 w w')
 case atStart => exact ⟨(0), (pF), H', ⟨Nat.le_refl _⟩, by repeat (first | exact Drawn0.refl _ | apply Drawn0.step)⟩
 case round =>
  clear H'
  obtain ⟨x6_1, rfl, HA, HK1, ⟨m1, rfl⟩⟩ := hrel
  cases gk with
  | zero => exact absurd HA.out (by simp [gradinelaw45_many.l0])
  | succ k1 =>
   have H := HA.out
   clear HA
   simp only [gradinelaw45_many.l0] at H
   by_cases c2 : x6_1 < (l0.length : Int)
   rotate_left
   ·rw [if_neg c2] at H
    have c2b0 : decide (x6_1 < (l0.length : Int)) = false := decide_eq_false c2
    clear c2
    obtain rfl := Option.some.inj H
    go_wp2
    go_ret
    exact ⟨pF, by repeat (first | exact Drawn0.refl _ | apply Drawn0.step)⟩

   rw [if_pos c2] at H
   have c2b0 : decide (x6_1 < (l0.length : Int)) = true := decide_eq_true c2
   clear c2
   by_cases c3 : 0 ≤ x6_1
   rotate_left
   ·rw [if_neg c3] at H
    exact absurd H (by simp)
   rw [if_pos c3] at H
   have c3b0 : decide (0 ≤ x6_1) = true := decide_eq_true c3
   clear c3
   by_cases c4 : x6_1 < (l0.length : Int)
   rotate_left
   ·rw [if_neg c4] at H
    exact absurd H (by simp)
   rw [if_pos c4] at H
   have c4b0 : decide (x6_1 < (l0.length : Int)) = true := decide_eq_true c4
   clear c4
   by_cases c5 : (((rd_T45 l0 x6_1).f3).length : Int) > 300
   ·rw [if_pos c5] at H
    have c5b0 : decide (300 < (((rd_T45 l0 x6_1).f3).length : Int)) = true := decide_eq_true c5
    have c5b1 : decide (300 < ((rd_T45 l0 x6_1).f3).length) = true := decide_eq_true (by omega)
    clear c5
    obtain rfl := Option.some.inj H
    have p101 : 0 ≤ (x6_1 : Int) := of_decide_eq_true pD
    have q101 : x6_1 < (l0.length : Int) := of_decide_eq_true pD
    obtain ⟨ad101, A101_3, c101_3, A101_13, c101_13, A101_14, c101_14, A101_15, c101_15, e101, hx101_0, hx101_1, hx101_2, hx101_3, hx101_4, hx101_5, hx101_6, hx101_7, hx101_8, hx101_9, hx101_10, hx101_11, hx101_12, hx101_13, hx101_14, hx101_15, hx101_16, hl101_3, hi101_3, hl101_13, hi101_13, hl101_14, hi101_14, hl101_15, hi101_15⟩ := at_T45 HR0.out x6_1 p101 q101
    cases e101
    have zg := aM hi101_3
    have zh := aM hl101_3
    clear hi101_3 hl101_3
    have za := aM hi101_13
    have zb := aM hl101_13
    clear hi101_13 hl101_13
    have zc := aM hi101_14
    have zd := aM hl101_14
    clear hi101_14 hl101_14
    have ze := aM hi101_15
    have zf := aM hl101_15
    clear hi101_15 hl101_15
    replace p101 := eq_true p101
    replace q101 := eq_true q101
    go_wp2
    go_ret
    exact ⟨pF, by repeat (first | exact Drawn0.refl _ | apply Drawn0.step)⟩
   rw [if_neg c5] at H
   have c5b0 : decide (300 < (((rd_T45 l0 x6_1).f3).length : Int)) = false := decide_eq_false c5
   have c5b1 : decide (300 < ((rd_T45 l0 x6_1).f3).length) = false := decide_eq_false (by omega)
   clear c5
   by_cases c6 : (((rd_T45 l0 x6_1).f5).length : Int) > 300
   ·rw [if_pos c6] at H
    have c6b0 : decide (300 < (((rd_T45 l0 x6_1).f5).length : Int)) = true := decide_eq_true c6
    have c6b1 : decide (300 < ((rd_T45 l0 x6_1).f5).length) = true := decide_eq_true (by omega)
    clear c6
    obtain rfl := Option.some.inj H
    have p101 : 0 ≤ (x6_1 : Int) := of_decide_eq_true pD
    have q101 : x6_1 < (l0.length : Int) := of_decide_eq_true pD
    obtain ⟨ad101, A101_3, c101_3, A101_13, c101_13, A101_14, c101_14, A101_15, c101_15, e101, hx101_0, hx101_1, hx101_2, hx101_3, hx101_4, hx101_5, hx101_6, hx101_7, hx101_8, hx101_9, hx101_10, hx101_11, hx101_12, hx101_13, hx101_14, hx101_15, hx101_16, hl101_3, hi101_3, hl101_13, hi101_13, hl101_14, hi101_14, hl101_15, hi101_15⟩ := at_T45 HR0.out x6_1 p101 q101
    cases e101
    have zg := aM hi101_3
    have zh := aM hl101_3
    clear hi101_3 hl101_3
    have za := aM hi101_13
    have zb := aM hl101_13
    clear hi101_13 hl101_13
    have zc := aM hi101_14
    have zd := aM hl101_14
    clear hi101_14 hl101_14
    have ze := aM hi101_15
    have zf := aM hl101_15
    clear hi101_15 hl101_15
    replace p101 := eq_true p101
    replace q101 := eq_true q101
    have p102 : 0 ≤ (x6_1 : Int) := of_decide_eq_true pD
    have q102 : x6_1 < (l0.length : Int) := of_decide_eq_true pD
    obtain ⟨ad102, A102_3, c102_3, A102_13, c102_13, A102_14, c102_14, A102_15, c102_15, e102, hx102_0, hx102_1, hx102_2, hx102_3, hx102_4, hx102_5, hx102_6, hx102_7, hx102_8, hx102_9, hx102_10, hx102_11, hx102_12, hx102_13, hx102_14, hx102_15, hx102_16, hl102_3, hi102_3, hl102_13, hi102_13, hl102_14, hi102_14, hl102_15, hi102_15⟩ := at_T45 HR0.out x6_1 p102 q102
    obtain rfl : ad101 = ad102 := (by injection e102)
    have zo := aM hi102_3
    have zp := aM hl102_3
    clear hi102_3 hl102_3
    have zi := aM hi102_13
    have zj := aM hl102_13
    clear hi102_13 hl102_13
    have zk := aM hi102_14
    have zl := aM hl102_14
    clear hi102_14 hl102_14
    have zm := aM hi102_15
    have zn := aM hl102_15
    clear hi102_15 hl102_15
    replace p102 := eq_true p102
    replace q102 := eq_true q102
    have ea_ := Option.some.inj (hx101_3.symm.trans hx102_3)
    injection ea_ with ea_ en_ ec_
    subst ea_
    subst ec_
    clear en_
    have ea_ := Option.some.inj (hx101_13.symm.trans hx102_13)
    injection ea_ with ea_ en_ ec_
    subst ea_
    subst ec_
    clear en_
    have ea_ := Option.some.inj (hx101_14.symm.trans hx102_14)
    injection ea_ with ea_ en_ ec_
    subst ea_
    subst ec_
    clear en_
    have ea_ := Option.some.inj (hx101_15.symm.trans hx102_15)
    injection ea_ with ea_ en_ ec_
    subst ea_
    subst ec_
    clear en_
    go_wp2
    go_ret
    exact ⟨pF, by repeat (first | exact Drawn0.refl _ | apply Drawn0.step)⟩
   rw [if_neg c6] at H
   have c6b0 : decide (300 < (((rd_T45 l0 x6_1).f5).length : Int)) = false := decide_eq_false c6
   have c6b1 : decide (300 < ((rd_T45 l0 x6_1).f5).length) = false := decide_eq_false (by omega)
   clear c6
   by_cases c7 : (((rd_T45 l0 x6_1).f6).length : Int) > 300
   ·rw [if_pos c7] at H
    have c7b0 : decide (300 < (((rd_T45 l0 x6_1).f6).length : Int)) = true := decide_eq_true c7
    have c7b1 : decide (300 < ((rd_T45 l0 x6_1).f6).length) = true := decide_eq_true (by omega)
    clear c7
    obtain rfl := Option.some.inj H
    have p101 : 0 ≤ (x6_1 : Int) := of_decide_eq_true pD
    have q101 : x6_1 < (l0.length : Int) := of_decide_eq_true pD
    obtain ⟨ad101, A101_3, c101_3, A101_13, c101_13, A101_14, c101_14, A101_15, c101_15, e101, hx101_0, hx101_1, hx101_2, hx101_3, hx101_4, hx101_5, hx101_6, hx101_7, hx101_8, hx101_9, hx101_10, hx101_11, hx101_12, hx101_13, hx101_14, hx101_15, hx101_16, hl101_3, hi101_3, hl101_13, hi101_13, hl101_14, hi101_14, hl101_15, hi101_15⟩ := at_T45 HR0.out x6_1 p101 q101
    cases e101
    have zg := aM hi101_3
    have zh := aM hl101_3
    clear hi101_3 hl101_3
    have za := aM hi101_13
    have zb := aM hl101_13
    clear hi101_13 hl101_13
    have zc := aM hi101_14
    have zd := aM hl101_14
    clear hi101_14 hl101_14
    have ze := aM hi101_15
    have zf := aM hl101_15
    clear hi101_15 hl101_15
    replace p101 := eq_true p101
    replace q101 := eq_true q101
    have p102 : 0 ≤ (x6_1 : Int) := of_decide_eq_true pD
    have q102 : x6_1 < (l0.length : Int) := of_decide_eq_true pD
    obtain ⟨ad102, A102_3, c102_3, A102_13, c102_13, A102_14, c102_14, A102_15, c102_15, e102, hx102_0, hx102_1, hx102_2, hx102_3, hx102_4, hx102_5, hx102_6, hx102_7, hx102_8, hx102_9, hx102_10, hx102_11, hx102_12, hx102_13, hx102_14, hx102_15, hx102_16, hl102_3, hi102_3, hl102_13, hi102_13, hl102_14, hi102_14, hl102_15, hi102_15⟩ := at_T45 HR0.out x6_1 p102 q102
    obtain rfl : ad101 = ad102 := (by injection e102)
    have zo := aM hi102_3
    have zp := aM hl102_3
    clear hi102_3 hl102_3
    have zi := aM hi102_13
    have zj := aM hl102_13
    clear hi102_13 hl102_13
    have zk := aM hi102_14
    have zl := aM hl102_14
    clear hi102_14 hl102_14
    have zm := aM hi102_15
    have zn := aM hl102_15
    clear hi102_15 hl102_15
    replace p102 := eq_true p102
    replace q102 := eq_true q102
    have ea_ := Option.some.inj (hx101_3.symm.trans hx102_3)
    injection ea_ with ea_ en_ ec_
    subst ea_
    subst ec_
    clear en_
    have ea_ := Option.some.inj (hx101_13.symm.trans hx102_13)
    injection ea_ with ea_ en_ ec_
    subst ea_
    subst ec_
    clear en_
    have ea_ := Option.some.inj (hx101_14.symm.trans hx102_14)
    injection ea_ with ea_ en_ ec_
    subst ea_
    subst ec_
    clear en_
    have ea_ := Option.some.inj (hx101_15.symm.trans hx102_15)
    injection ea_ with ea_ en_ ec_
    subst ea_
    subst ec_
    clear en_
    have p103 : 0 ≤ (x6_1 : Int) := of_decide_eq_true pD
    have q103 : x6_1 < (l0.length : Int) := of_decide_eq_true pD
    obtain ⟨ad103, A103_3, c103_3, A103_13, c103_13, A103_14, c103_14, A103_15, c103_15, e103, hx103_0, hx103_1, hx103_2, hx103_3, hx103_4, hx103_5, hx103_6, hx103_7, hx103_8, hx103_9, hx103_10, hx103_11, hx103_12, hx103_13, hx103_14, hx103_15, hx103_16, hl103_3, hi103_3, hl103_13, hi103_13, hl103_14, hi103_14, hl103_15, hi103_15⟩ := at_T45 HR0.out x6_1 p103 q103
    obtain rfl : ad101 = ad103 := (by injection e103)
    have zw := aM hi103_3
    have zx := aM hl103_3
    clear hi103_3 hl103_3
    have zq := aM hi103_13
    have zr := aM hl103_13
    clear hi103_13 hl103_13
    have zs := aM hi103_14
    have zt := aM hl103_14
    clear hi103_14 hl103_14
    have zu := aM hi103_15
    have zv := aM hl103_15
    clear hi103_15 hl103_15
    replace p103 := eq_true p103
    replace q103 := eq_true q103
    have ea_ := Option.some.inj (hx101_3.symm.trans hx103_3)
    injection ea_ with ea_ en_ ec_
    subst ea_
    subst ec_
    clear en_
    have ea_ := Option.some.inj (hx101_13.symm.trans hx103_13)
    injection ea_ with ea_ en_ ec_
    subst ea_
    subst ec_
    clear en_
    have ea_ := Option.some.inj (hx101_14.symm.trans hx103_14)
    injection ea_ with ea_ en_ ec_
    subst ea_
    subst ec_
    clear en_
    have ea_ := Option.some.inj (hx101_15.symm.trans hx103_15)
    injection ea_ with ea_ en_ ec_
    subst ea_
    subst ec_
    clear en_
    go_wp2
    go_ret
    exact ⟨pF, by repeat (first | exact Drawn0.refl _ | apply Drawn0.step)⟩
   rw [if_neg c7] at H
   have c7b0 : decide (300 < (((rd_T45 l0 x6_1).f6).length : Int)) = false := decide_eq_false c7
   have c7b1 : decide (300 < ((rd_T45 l0 x6_1).f6).length) = false := decide_eq_false (by omega)
   clear c7
   by_cases c8 : (((rd_T45 l0 x6_1).f4.f9).length : Int) > 300
   ·rw [if_pos c8] at H
    have c8b0 : decide (300 < (((rd_T45 l0 x6_1).f4.f9).length : Int)) = true := decide_eq_true c8
    have c8b1 : decide (300 < ((rd_T45 l0 x6_1).f4.f9).length) = true := decide_eq_true (by omega)
    clear c8
    obtain rfl := Option.some.inj H
    have p101 : 0 ≤ (x6_1 : Int) := of_decide_eq_true pD
    have q101 : x6_1 < (l0.length : Int) := of_decide_eq_true pD
    obtain ⟨ad101, A101_3, c101_3, A101_13, c101_13, A101_14, c101_14, A101_15, c101_15, e101, hx101_0, hx101_1, hx101_2, hx101_3, hx101_4, hx101_5, hx101_6, hx101_7, hx101_8, hx101_9, hx101_10, hx101_11, hx101_12, hx101_13, hx101_14, hx101_15, hx101_16, hl101_3, hi101_3, hl101_13, hi101_13, hl101_14, hi101_14, hl101_15, hi101_15⟩ := at_T45 HR0.out x6_1 p101 q101
    cases e101
    have zg := aM hi101_3
    have zh := aM hl101_3
    clear hi101_3 hl101_3
    have za := aM hi101_13
    have zb := aM hl101_13
    clear hi101_13 hl101_13
    have zc := aM hi101_14
    have zd := aM hl101_14
    clear hi101_14 hl101_14
    have ze := aM hi101_15
    have zf := aM hl101_15
    clear hi101_15 hl101_15
    replace p101 := eq_true p101
    replace q101 := eq_true q101
    have p102 : 0 ≤ (x6_1 : Int) := of_decide_eq_true pD
    have q102 : x6_1 < (l0.length : Int) := of_decide_eq_true pD
    obtain ⟨ad102, A102_3, c102_3, A102_13, c102_13, A102_14, c102_14, A102_15, c102_15, e102, hx102_0, hx102_1, hx102_2, hx102_3, hx102_4, hx102_5, hx102_6, hx102_7, hx102_8, hx102_9, hx102_10, hx102_11, hx102_12, hx102_13, hx102_14, hx102_15, hx102_16, hl102_3, hi102_3, hl102_13, hi102_13, hl102_14, hi102_14, hl102_15, hi102_15⟩ := at_T45 HR0.out x6_1 p102 q102
    obtain rfl : ad101 = ad102 := (by injection e102)
    have zo := aM hi102_3
    have zp := aM hl102_3
    clear hi102_3 hl102_3
    have zi := aM hi102_13
    have zj := aM hl102_13
    clear hi102_13 hl102_13
    have zk := aM hi102_14
    have zl := aM hl102_14
    clear hi102_14 hl102_14
    have zm := aM hi102_15
    have zn := aM hl102_15
    clear hi102_15 hl102_15
    replace p102 := eq_true p102
    replace q102 := eq_true q102
    have ea_ := Option.some.inj (hx101_3.symm.trans hx102_3)
    injection ea_ with ea_ en_ ec_
    subst ea_
    subst ec_
    clear en_
    have ea_ := Option.some.inj (hx101_13.symm.trans hx102_13)
    injection ea_ with ea_ en_ ec_
    subst ea_
    subst ec_
    clear en_
    have ea_ := Option.some.inj (hx101_14.symm.trans hx102_14)
    injection ea_ with ea_ en_ ec_
    subst ea_
    subst ec_
    clear en_
    have ea_ := Option.some.inj (hx101_15.symm.trans hx102_15)
    injection ea_ with ea_ en_ ec_
    subst ea_
    subst ec_
    clear en_
    have p103 : 0 ≤ (x6_1 : Int) := of_decide_eq_true pD
    have q103 : x6_1 < (l0.length : Int) := of_decide_eq_true pD
    obtain ⟨ad103, A103_3, c103_3, A103_13, c103_13, A103_14, c103_14, A103_15, c103_15, e103, hx103_0, hx103_1, hx103_2, hx103_3, hx103_4, hx103_5, hx103_6, hx103_7, hx103_8, hx103_9, hx103_10, hx103_11, hx103_12, hx103_13, hx103_14, hx103_15, hx103_16, hl103_3, hi103_3, hl103_13, hi103_13, hl103_14, hi103_14, hl103_15, hi103_15⟩ := at_T45 HR0.out x6_1 p103 q103
    obtain rfl : ad101 = ad103 := (by injection e103)
    have zw := aM hi103_3
    have zx := aM hl103_3
    clear hi103_3 hl103_3
    have zq := aM hi103_13
    have zr := aM hl103_13
    clear hi103_13 hl103_13
    have zs := aM hi103_14
    have zt := aM hl103_14
    clear hi103_14 hl103_14
    have zu := aM hi103_15
    have zv := aM hl103_15
    clear hi103_15 hl103_15
    replace p103 := eq_true p103
    replace q103 := eq_true q103
    have ea_ := Option.some.inj (hx101_3.symm.trans hx103_3)
    injection ea_ with ea_ en_ ec_
    subst ea_
    subst ec_
    clear en_
    have ea_ := Option.some.inj (hx101_13.symm.trans hx103_13)
    injection ea_ with ea_ en_ ec_
    subst ea_
    subst ec_
    clear en_
    have ea_ := Option.some.inj (hx101_14.symm.trans hx103_14)
    injection ea_ with ea_ en_ ec_
    subst ea_
    subst ec_
    clear en_
    have ea_ := Option.some.inj (hx101_15.symm.trans hx103_15)
    injection ea_ with ea_ en_ ec_
    subst ea_
    subst ec_
    clear en_
    have p104 : 0 ≤ (x6_1 : Int) := of_decide_eq_true pD
    have q104 : x6_1 < (l0.length : Int) := of_decide_eq_true pD
    obtain ⟨ad104, A104_3, c104_3, A104_13, c104_13, A104_14, c104_14, A104_15, c104_15, e104, hx104_0, hx104_1, hx104_2, hx104_3, hx104_4, hx104_5, hx104_6, hx104_7, hx104_8, hx104_9, hx104_10, hx104_11, hx104_12, hx104_13, hx104_14, hx104_15, hx104_16, hl104_3, hi104_3, hl104_13, hi104_13, hl104_14, hi104_14, hl104_15, hi104_15⟩ := at_T45 HR0.out x6_1 p104 q104
    obtain rfl : ad101 = ad104 := (by injection e104)
    have HR104_3 := aM hi104_3
    have HC104_3 := aM hl104_3
    clear hi104_3 hl104_3
    have HR104_13 := aM hi104_13
    have HC104_13 := aM hl104_13
    clear hi104_13 hl104_13
    have HR104_14 := aM hi104_14
    have HC104_14 := aM hl104_14
    clear hi104_14 hl104_14
    have HR104_15 := aM hi104_15
    have HC104_15 := aM hl104_15
    clear hi104_15 hl104_15
    replace p104 := eq_true p104
    replace q104 := eq_true q104
    have ea_ := Option.some.inj (hx101_3.symm.trans hx104_3)
    injection ea_ with ea_ en_ ec_
    subst ea_
    subst ec_
    clear en_
    have ea_ := Option.some.inj (hx101_13.symm.trans hx104_13)
    injection ea_ with ea_ en_ ec_
    subst ea_
    subst ec_
    clear en_
    have ea_ := Option.some.inj (hx101_14.symm.trans hx104_14)
    injection ea_ with ea_ en_ ec_
    subst ea_
    subst ec_
    clear en_
    have ea_ := Option.some.inj (hx101_15.symm.trans hx104_15)
    injection ea_ with ea_ en_ ec_
    subst ea_
    subst ec_
    clear en_
    go_wp2
    go_ret
    exact ⟨pF, by repeat (first | exact Drawn0.refl _ | apply Drawn0.step)⟩
   rw [if_neg c8] at H
   have c8b0 : decide (300 < (((rd_T45 l0 x6_1).f4.f9).length : Int)) = false := decide_eq_false c8
   have c8b1 : decide (300 < ((rd_T45 l0 x6_1).f4.f9).length) = false := decide_eq_false (by omega)
   clear c8
   have H' := aM H
   clear H
   have p101 : 0 ≤ (x6_1 : Int) := of_decide_eq_true pD
   have q101 : x6_1 < (l0.length : Int) := of_decide_eq_true pD
   obtain ⟨ad101, A101_3, c101_3, A101_13, c101_13, A101_14, c101_14, A101_15, c101_15, e101, hx101_0, hx101_1, hx101_2, hx101_3, hx101_4, hx101_5, hx101_6, hx101_7, hx101_8, hx101_9, hx101_10, hx101_11, hx101_12, hx101_13, hx101_14, hx101_15, hx101_16, hl101_3, hi101_3, hl101_13, hi101_13, hl101_14, hi101_14, hl101_15, hi101_15⟩ := at_T45 HR0.out x6_1 p101 q101
   cases e101
   have zg := aM hi101_3
   have zh := aM hl101_3
   clear hi101_3 hl101_3
   have za := aM hi101_13
   have zb := aM hl101_13
   clear hi101_13 hl101_13
   have zc := aM hi101_14
   have zd := aM hl101_14
   clear hi101_14 hl101_14
   have ze := aM hi101_15
   have zf := aM hl101_15
   clear hi101_15 hl101_15
   replace p101 := eq_true p101
   replace q101 := eq_true q101
   have p102 : 0 ≤ (x6_1 : Int) := of_decide_eq_true pD
   have q102 : x6_1 < (l0.length : Int) := of_decide_eq_true pD
   obtain ⟨ad102, A102_3, c102_3, A102_13, c102_13, A102_14, c102_14, A102_15, c102_15, e102, hx102_0, hx102_1, hx102_2, hx102_3, hx102_4, hx102_5, hx102_6, hx102_7, hx102_8, hx102_9, hx102_10, hx102_11, hx102_12, hx102_13, hx102_14, hx102_15, hx102_16, hl102_3, hi102_3, hl102_13, hi102_13, hl102_14, hi102_14, hl102_15, hi102_15⟩ := at_T45 HR0.out x6_1 p102 q102
   obtain rfl : ad101 = ad102 := (by injection e102)
   have zo := aM hi102_3
   have zp := aM hl102_3
   clear hi102_3 hl102_3
   have zi := aM hi102_13
   have zj := aM hl102_13
   clear hi102_13 hl102_13
   have zk := aM hi102_14
   have zl := aM hl102_14
   clear hi102_14 hl102_14
   have zm := aM hi102_15
   have zn := aM hl102_15
   clear hi102_15 hl102_15
   replace p102 := eq_true p102
   replace q102 := eq_true q102
   have ea_ := Option.some.inj (hx101_3.symm.trans hx102_3)
   injection ea_ with ea_ en_ ec_
   subst ea_
   subst ec_
   clear en_
   have ea_ := Option.some.inj (hx101_13.symm.trans hx102_13)
   injection ea_ with ea_ en_ ec_
   subst ea_
   subst ec_
   clear en_
   have ea_ := Option.some.inj (hx101_14.symm.trans hx102_14)
   injection ea_ with ea_ en_ ec_
   subst ea_
   subst ec_
   clear en_
   have ea_ := Option.some.inj (hx101_15.symm.trans hx102_15)
   injection ea_ with ea_ en_ ec_
   subst ea_
   subst ec_
   clear en_
   have p103 : 0 ≤ (x6_1 : Int) := of_decide_eq_true pD
   have q103 : x6_1 < (l0.length : Int) := of_decide_eq_true pD
   obtain ⟨ad103, A103_3, c103_3, A103_13, c103_13, A103_14, c103_14, A103_15, c103_15, e103, hx103_0, hx103_1, hx103_2, hx103_3, hx103_4, hx103_5, hx103_6, hx103_7, hx103_8, hx103_9, hx103_10, hx103_11, hx103_12, hx103_13, hx103_14, hx103_15, hx103_16, hl103_3, hi103_3, hl103_13, hi103_13, hl103_14, hi103_14, hl103_15, hi103_15⟩ := at_T45 HR0.out x6_1 p103 q103
   obtain rfl : ad101 = ad103 := (by injection e103)
   have zw := aM hi103_3
   have zx := aM hl103_3
   clear hi103_3 hl103_3
   have zq := aM hi103_13
   have zr := aM hl103_13
   clear hi103_13 hl103_13
   have zs := aM hi103_14
   have zt := aM hl103_14
   clear hi103_14 hl103_14
   have zu := aM hi103_15
   have zv := aM hl103_15
   clear hi103_15 hl103_15
   replace p103 := eq_true p103
   replace q103 := eq_true q103
   have ea_ := Option.some.inj (hx101_3.symm.trans hx103_3)
   injection ea_ with ea_ en_ ec_
   subst ea_
   subst ec_
   clear en_
   have ea_ := Option.some.inj (hx101_13.symm.trans hx103_13)
   injection ea_ with ea_ en_ ec_
   subst ea_
   subst ec_
   clear en_
   have ea_ := Option.some.inj (hx101_14.symm.trans hx103_14)
   injection ea_ with ea_ en_ ec_
   subst ea_
   subst ec_
   clear en_
   have ea_ := Option.some.inj (hx101_15.symm.trans hx103_15)
   injection ea_ with ea_ en_ ec_
   subst ea_
   subst ec_
   clear en_
   have p104 : 0 ≤ (x6_1 : Int) := of_decide_eq_true pD
   have q104 : x6_1 < (l0.length : Int) := of_decide_eq_true pD
   obtain ⟨ad104, A104_3, c104_3, A104_13, c104_13, A104_14, c104_14, A104_15, c104_15, e104, hx104_0, hx104_1, hx104_2, hx104_3, hx104_4, hx104_5, hx104_6, hx104_7, hx104_8, hx104_9, hx104_10, hx104_11, hx104_12, hx104_13, hx104_14, hx104_15, hx104_16, hl104_3, hi104_3, hl104_13, hi104_13, hl104_14, hi104_14, hl104_15, hi104_15⟩ := at_T45 HR0.out x6_1 p104 q104
   obtain rfl : ad101 = ad104 := (by injection e104)
   have HR104_3 := aM hi104_3
   have HC104_3 := aM hl104_3
   clear hi104_3 hl104_3
   have HR104_13 := aM hi104_13
   have HC104_13 := aM hl104_13
   clear hi104_13 hl104_13
   have HR104_14 := aM hi104_14
   have HC104_14 := aM hl104_14
   clear hi104_14 hl104_14
   have HR104_15 := aM hi104_15
   have HC104_15 := aM hl104_15
   clear hi104_15 hl104_15
   replace p104 := eq_true p104
   replace q104 := eq_true q104
   have ea_ := Option.some.inj (hx101_3.symm.trans hx104_3)
   injection ea_ with ea_ en_ ec_
   subst ea_
   subst ec_
   clear en_
   have ea_ := Option.some.inj (hx101_13.symm.trans hx104_13)
   injection ea_ with ea_ en_ ec_
   subst ea_
   subst ec_
   clear en_
   have ea_ := Option.some.inj (hx101_14.symm.trans hx104_14)
   injection ea_ with ea_ en_ ec_
   subst ea_
   subst ec_
   clear en_
   have ea_ := Option.some.inj (hx101_15.symm.trans hx104_15)
   injection ea_ with ea_ en_ ec_
   subst ea_
   subst ec_
   clear en_
   go_wp2
   go_roundg k1
   case measure => have := HK1.out; omega
   case rel => exact ⟨(wrap64 (x6_1 + 1)), (pF), H', ⟨by have := HK1.out; omega⟩, by repeat (first | exact Drawn0.refl _ | apply Drawn0.step)⟩
end Go.Proofs.Ytkohdojiockejaa.Q
