-- By wip/gprint.py (this session's), out of the kit's print.py.
import Derived.Test.YtkohdojiockejaaQx0
namespace Go.Proofs.Ytkohdojiockejaa.Q
open Go.RowKit Go.Proofs.YtkohdojiockejaaW.PrintWords Go.Proofs.YtkohdojiockejaaW.PrintLast Go.Proofs.YtkohdojiockejaaW.PrintMore
attribute [local go_sem] max2_int min2_int max_two min_two max_three min_three max_four min_four   -- for this text's walks alone
set_option linter.unusedVariables false
set_option linter.unusedSimpArgs false

/-! ### gradinelaw38_Many: function 14 -/
def gradinelaw38_Many.l0 : Nat → List (S45) → Int → Int → Int → Option (Bool)
 | 0, _, _, _, _ => none
 | k + 1, x0, x1, x7, x8 => if x8 < x7 then (if 0 ≤ x8 then (if x8 < (x0.length : Int) then (if (((rd_T45 x0 x8).f3).length : Int) > 10 then (some true) else (if (((rd_T45 x0 x8).f5).length : Int) > 20 then (some true) else (if (((rd_T45 x0 x8).f6).length : Int) > 100 then (some true) else (if (((rd_T45 x0 x8).f4.f9).length : Int) > 80 then (some true) else (gradinelaw38_Many.l0 k x0 x1 x7 (wrap64 (x8 + 1))))))) else (none)) else (none)) else (some (decide ((x0.length : Int) > x1)))
def gradinelaw38_Many.f (k : Nat) (l0 : List (S45)) (a1 : Int) : Option (Bool) := gradinelaw38_Many.l0 k l0 a1 (l0.length : Int) 0
set_option maxHeartbeats 8000000 in
set_option maxRecDepth 100000 in
theorem gradinelaw38_Many.calls (k : Nat) (A0 : Option Addr) (c0 : Nat) (l0 : List (S45)) (a1 : Int) (r : Bool) (w : World) (hr0 : Kd.C k45 w A0 l0.length l0) (hc0 : l0.length ≤ c0) (h : gradinelaw38_Many.f k l0 a1 = some r) :
  Calls Try.prog 14 #[.slice A0 l0.length c0, .int .i64 a1] w fun e w' => e = .returned (.bool r) ∧ Drawn0 w w' := by
 have HR0 := aM hr0
 have HC0 := aM hc0
 clear hr0 hc0
 have H : (gradinelaw38_Many.l0 k l0 a1 (l0.length : Int) 0) = some r := h
 clear h
 have H' := aM H
 clear H
 go_enter Try.func14, Try.ntmps14
 go_wp2
 go_loopg [8] k (fun kq v8 w' => ∃ (x8_1 : Int), v8 = .int .i64 x8_1 ∧ Aside0 (gradinelaw38_Many.l0 kq l0 a1 (l0.length : Int) x8_1 = some r) ∧ Aside0 (kq ≤ k) ∧ Drawn0 w w')
 case atStart => exact ⟨(0), (pF), H', ⟨Nat.le_refl _⟩, by repeat (first | exact Drawn0.refl _ | apply Drawn0.step)⟩
 case round =>
  clear H'
  obtain ⟨x8_1, rfl, HA, HK1, ⟨m1, rfl⟩⟩ := hrel
  cases gk with
  | zero => exact absurd HA.out (by simp [gradinelaw38_Many.l0])
  | succ k1 =>
   have H := HA.out
   clear HA
   simp only [gradinelaw38_Many.l0] at H
   by_cases c3 : x8_1 < (l0.length : Int)
   rotate_left
   ·rw [if_neg c3] at H
    have c3b0 : decide (x8_1 < (l0.length : Int)) = false := decide_eq_false c3
    clear c3
    obtain rfl := Option.some.inj H
    go_wp2
    go_ret
    exact ⟨pF, by repeat (first | exact Drawn0.refl _ | apply Drawn0.step)⟩

   rw [if_pos c3] at H
   have c3b0 : decide (x8_1 < (l0.length : Int)) = true := decide_eq_true c3
   clear c3
   by_cases c4 : 0 ≤ x8_1
   rotate_left
   ·rw [if_neg c4] at H
    exact absurd H (by simp)
   rw [if_pos c4] at H
   have c4b0 : decide (0 ≤ x8_1) = true := decide_eq_true c4
   clear c4
   by_cases c5 : x8_1 < (l0.length : Int)
   rotate_left
   ·rw [if_neg c5] at H
    exact absurd H (by simp)
   rw [if_pos c5] at H
   have c5b0 : decide (x8_1 < (l0.length : Int)) = true := decide_eq_true c5
   clear c5
   by_cases c6 : (((rd_T45 l0 x8_1).f3).length : Int) > 10
   ·rw [if_pos c6] at H
    have c6b0 : decide (10 < (((rd_T45 l0 x8_1).f3).length : Int)) = true := decide_eq_true c6
    have c6b1 : decide (10 < ((rd_T45 l0 x8_1).f3).length) = true := decide_eq_true (by omega)
    clear c6
    obtain rfl := Option.some.inj H
    have p262 : 0 ≤ (x8_1 : Int) := of_decide_eq_true pD
    have q262 : x8_1 < (l0.length : Int) := of_decide_eq_true pD
    obtain ⟨ad262, A262_3, c262_3, A262_13, c262_13, A262_14, c262_14, A262_15, c262_15, e262, hx262_0, hx262_1, hx262_2, hx262_3, hx262_4, hx262_5, hx262_6, hx262_7, hx262_8, hx262_9, hx262_10, hx262_11, hx262_12, hx262_13, hx262_14, hx262_15, hx262_16, hl262_3, hi262_3, hl262_13, hi262_13, hl262_14, hi262_14, hl262_15, hi262_15⟩ := at_T45 HR0.out x8_1 p262 q262
    cases e262
    have zg := aM hi262_3
    have zh := aM hl262_3
    clear hi262_3 hl262_3
    have za := aM hi262_13
    have zb := aM hl262_13
    clear hi262_13 hl262_13
    have zc := aM hi262_14
    have zd := aM hl262_14
    clear hi262_14 hl262_14
    have ze := aM hi262_15
    have zf := aM hl262_15
    clear hi262_15 hl262_15
    replace p262 := eq_true p262
    replace q262 := eq_true q262
    go_wp2
    go_ret
    exact ⟨pF, by repeat (first | exact Drawn0.refl _ | apply Drawn0.step)⟩
   rw [if_neg c6] at H
   have c6b0 : decide (10 < (((rd_T45 l0 x8_1).f3).length : Int)) = false := decide_eq_false c6
   have c6b1 : decide (10 < ((rd_T45 l0 x8_1).f3).length) = false := decide_eq_false (by omega)
   clear c6
   by_cases c7 : (((rd_T45 l0 x8_1).f5).length : Int) > 20
   ·rw [if_pos c7] at H
    have c7b0 : decide (20 < (((rd_T45 l0 x8_1).f5).length : Int)) = true := decide_eq_true c7
    have c7b1 : decide (20 < ((rd_T45 l0 x8_1).f5).length) = true := decide_eq_true (by omega)
    clear c7
    obtain rfl := Option.some.inj H
    have p262 : 0 ≤ (x8_1 : Int) := of_decide_eq_true pD
    have q262 : x8_1 < (l0.length : Int) := of_decide_eq_true pD
    obtain ⟨ad262, A262_3, c262_3, A262_13, c262_13, A262_14, c262_14, A262_15, c262_15, e262, hx262_0, hx262_1, hx262_2, hx262_3, hx262_4, hx262_5, hx262_6, hx262_7, hx262_8, hx262_9, hx262_10, hx262_11, hx262_12, hx262_13, hx262_14, hx262_15, hx262_16, hl262_3, hi262_3, hl262_13, hi262_13, hl262_14, hi262_14, hl262_15, hi262_15⟩ := at_T45 HR0.out x8_1 p262 q262
    cases e262
    have zg := aM hi262_3
    have zh := aM hl262_3
    clear hi262_3 hl262_3
    have za := aM hi262_13
    have zb := aM hl262_13
    clear hi262_13 hl262_13
    have zc := aM hi262_14
    have zd := aM hl262_14
    clear hi262_14 hl262_14
    have ze := aM hi262_15
    have zf := aM hl262_15
    clear hi262_15 hl262_15
    replace p262 := eq_true p262
    replace q262 := eq_true q262
    have p263 : 0 ≤ (x8_1 : Int) := of_decide_eq_true pD
    have q263 : x8_1 < (l0.length : Int) := of_decide_eq_true pD
    obtain ⟨ad263, A263_3, c263_3, A263_13, c263_13, A263_14, c263_14, A263_15, c263_15, e263, hx263_0, hx263_1, hx263_2, hx263_3, hx263_4, hx263_5, hx263_6, hx263_7, hx263_8, hx263_9, hx263_10, hx263_11, hx263_12, hx263_13, hx263_14, hx263_15, hx263_16, hl263_3, hi263_3, hl263_13, hi263_13, hl263_14, hi263_14, hl263_15, hi263_15⟩ := at_T45 HR0.out x8_1 p263 q263
    obtain rfl : ad262 = ad263 := (by injection e263)
    have zo := aM hi263_3
    have zp := aM hl263_3
    clear hi263_3 hl263_3
    have zi := aM hi263_13
    have zj := aM hl263_13
    clear hi263_13 hl263_13
    have zk := aM hi263_14
    have zl := aM hl263_14
    clear hi263_14 hl263_14
    have zm := aM hi263_15
    have zn := aM hl263_15
    clear hi263_15 hl263_15
    replace p263 := eq_true p263
    replace q263 := eq_true q263
    have ea_ := Option.some.inj (hx262_3.symm.trans hx263_3)
    injection ea_ with ea_ en_ ec_
    subst ea_
    subst ec_
    clear en_
    have ea_ := Option.some.inj (hx262_13.symm.trans hx263_13)
    injection ea_ with ea_ en_ ec_
    subst ea_
    subst ec_
    clear en_
    have ea_ := Option.some.inj (hx262_14.symm.trans hx263_14)
    injection ea_ with ea_ en_ ec_
    subst ea_
    subst ec_
    clear en_
    have ea_ := Option.some.inj (hx262_15.symm.trans hx263_15)
    injection ea_ with ea_ en_ ec_
    subst ea_
    subst ec_
    clear en_
    go_wp2
    go_ret
    exact ⟨pF, by repeat (first | exact Drawn0.refl _ | apply Drawn0.step)⟩
   rw [if_neg c7] at H
   have c7b0 : decide (20 < (((rd_T45 l0 x8_1).f5).length : Int)) = false := decide_eq_false c7
   have c7b1 : decide (20 < ((rd_T45 l0 x8_1).f5).length) = false := decide_eq_false (by omega)
   clear c7
   by_cases c8 : (((rd_T45 l0 x8_1).f6).length : Int) > 100
   ·rw [if_pos c8] at H
    have c8b0 : decide (100 < (((rd_T45 l0 x8_1).f6).length : Int)) = true := decide_eq_true c8
    have c8b1 : decide (100 < ((rd_T45 l0 x8_1).f6).length) = true := decide_eq_true (by omega)
    clear c8
    obtain rfl := Option.some.inj H
    have p262 : 0 ≤ (x8_1 : Int) := of_decide_eq_true pD
    have q262 : x8_1 < (l0.length : Int) := of_decide_eq_true pD
    obtain ⟨ad262, A262_3, c262_3, A262_13, c262_13, A262_14, c262_14, A262_15, c262_15, e262, hx262_0, hx262_1, hx262_2, hx262_3, hx262_4, hx262_5, hx262_6, hx262_7, hx262_8, hx262_9, hx262_10, hx262_11, hx262_12, hx262_13, hx262_14, hx262_15, hx262_16, hl262_3, hi262_3, hl262_13, hi262_13, hl262_14, hi262_14, hl262_15, hi262_15⟩ := at_T45 HR0.out x8_1 p262 q262
    cases e262
    have zg := aM hi262_3
    have zh := aM hl262_3
    clear hi262_3 hl262_3
    have za := aM hi262_13
    have zb := aM hl262_13
    clear hi262_13 hl262_13
    have zc := aM hi262_14
    have zd := aM hl262_14
    clear hi262_14 hl262_14
    have ze := aM hi262_15
    have zf := aM hl262_15
    clear hi262_15 hl262_15
    replace p262 := eq_true p262
    replace q262 := eq_true q262
    have p263 : 0 ≤ (x8_1 : Int) := of_decide_eq_true pD
    have q263 : x8_1 < (l0.length : Int) := of_decide_eq_true pD
    obtain ⟨ad263, A263_3, c263_3, A263_13, c263_13, A263_14, c263_14, A263_15, c263_15, e263, hx263_0, hx263_1, hx263_2, hx263_3, hx263_4, hx263_5, hx263_6, hx263_7, hx263_8, hx263_9, hx263_10, hx263_11, hx263_12, hx263_13, hx263_14, hx263_15, hx263_16, hl263_3, hi263_3, hl263_13, hi263_13, hl263_14, hi263_14, hl263_15, hi263_15⟩ := at_T45 HR0.out x8_1 p263 q263
    obtain rfl : ad262 = ad263 := (by injection e263)
    have zo := aM hi263_3
    have zp := aM hl263_3
    clear hi263_3 hl263_3
    have zi := aM hi263_13
    have zj := aM hl263_13
    clear hi263_13 hl263_13
    have zk := aM hi263_14
    have zl := aM hl263_14
    clear hi263_14 hl263_14
    have zm := aM hi263_15
    have zn := aM hl263_15
    clear hi263_15 hl263_15
    replace p263 := eq_true p263
    replace q263 := eq_true q263
    have ea_ := Option.some.inj (hx262_3.symm.trans hx263_3)
    injection ea_ with ea_ en_ ec_
    subst ea_
    subst ec_
    clear en_
    have ea_ := Option.some.inj (hx262_13.symm.trans hx263_13)
    injection ea_ with ea_ en_ ec_
    subst ea_
    subst ec_
    clear en_
    have ea_ := Option.some.inj (hx262_14.symm.trans hx263_14)
    injection ea_ with ea_ en_ ec_
    subst ea_
    subst ec_
    clear en_
    have ea_ := Option.some.inj (hx262_15.symm.trans hx263_15)
    injection ea_ with ea_ en_ ec_
    subst ea_
    subst ec_
    clear en_
    have p264 : 0 ≤ (x8_1 : Int) := of_decide_eq_true pD
    have q264 : x8_1 < (l0.length : Int) := of_decide_eq_true pD
    obtain ⟨ad264, A264_3, c264_3, A264_13, c264_13, A264_14, c264_14, A264_15, c264_15, e264, hx264_0, hx264_1, hx264_2, hx264_3, hx264_4, hx264_5, hx264_6, hx264_7, hx264_8, hx264_9, hx264_10, hx264_11, hx264_12, hx264_13, hx264_14, hx264_15, hx264_16, hl264_3, hi264_3, hl264_13, hi264_13, hl264_14, hi264_14, hl264_15, hi264_15⟩ := at_T45 HR0.out x8_1 p264 q264
    obtain rfl : ad262 = ad264 := (by injection e264)
    have zw := aM hi264_3
    have zx := aM hl264_3
    clear hi264_3 hl264_3
    have zq := aM hi264_13
    have zr := aM hl264_13
    clear hi264_13 hl264_13
    have zs := aM hi264_14
    have zt := aM hl264_14
    clear hi264_14 hl264_14
    have zu := aM hi264_15
    have zv := aM hl264_15
    clear hi264_15 hl264_15
    replace p264 := eq_true p264
    replace q264 := eq_true q264
    have ea_ := Option.some.inj (hx262_3.symm.trans hx264_3)
    injection ea_ with ea_ en_ ec_
    subst ea_
    subst ec_
    clear en_
    have ea_ := Option.some.inj (hx262_13.symm.trans hx264_13)
    injection ea_ with ea_ en_ ec_
    subst ea_
    subst ec_
    clear en_
    have ea_ := Option.some.inj (hx262_14.symm.trans hx264_14)
    injection ea_ with ea_ en_ ec_
    subst ea_
    subst ec_
    clear en_
    have ea_ := Option.some.inj (hx262_15.symm.trans hx264_15)
    injection ea_ with ea_ en_ ec_
    subst ea_
    subst ec_
    clear en_
    go_wp2
    go_ret
    exact ⟨pF, by repeat (first | exact Drawn0.refl _ | apply Drawn0.step)⟩
   rw [if_neg c8] at H
   have c8b0 : decide (100 < (((rd_T45 l0 x8_1).f6).length : Int)) = false := decide_eq_false c8
   have c8b1 : decide (100 < ((rd_T45 l0 x8_1).f6).length) = false := decide_eq_false (by omega)
   clear c8
   by_cases c9 : (((rd_T45 l0 x8_1).f4.f9).length : Int) > 80
   ·rw [if_pos c9] at H
    have c9b0 : decide (80 < (((rd_T45 l0 x8_1).f4.f9).length : Int)) = true := decide_eq_true c9
    have c9b1 : decide (80 < ((rd_T45 l0 x8_1).f4.f9).length) = true := decide_eq_true (by omega)
    clear c9
    obtain rfl := Option.some.inj H
    have p262 : 0 ≤ (x8_1 : Int) := of_decide_eq_true pD
    have q262 : x8_1 < (l0.length : Int) := of_decide_eq_true pD
    obtain ⟨ad262, A262_3, c262_3, A262_13, c262_13, A262_14, c262_14, A262_15, c262_15, e262, hx262_0, hx262_1, hx262_2, hx262_3, hx262_4, hx262_5, hx262_6, hx262_7, hx262_8, hx262_9, hx262_10, hx262_11, hx262_12, hx262_13, hx262_14, hx262_15, hx262_16, hl262_3, hi262_3, hl262_13, hi262_13, hl262_14, hi262_14, hl262_15, hi262_15⟩ := at_T45 HR0.out x8_1 p262 q262
    cases e262
    have zg := aM hi262_3
    have zh := aM hl262_3
    clear hi262_3 hl262_3
    have za := aM hi262_13
    have zb := aM hl262_13
    clear hi262_13 hl262_13
    have zc := aM hi262_14
    have zd := aM hl262_14
    clear hi262_14 hl262_14
    have ze := aM hi262_15
    have zf := aM hl262_15
    clear hi262_15 hl262_15
    replace p262 := eq_true p262
    replace q262 := eq_true q262
    have p263 : 0 ≤ (x8_1 : Int) := of_decide_eq_true pD
    have q263 : x8_1 < (l0.length : Int) := of_decide_eq_true pD
    obtain ⟨ad263, A263_3, c263_3, A263_13, c263_13, A263_14, c263_14, A263_15, c263_15, e263, hx263_0, hx263_1, hx263_2, hx263_3, hx263_4, hx263_5, hx263_6, hx263_7, hx263_8, hx263_9, hx263_10, hx263_11, hx263_12, hx263_13, hx263_14, hx263_15, hx263_16, hl263_3, hi263_3, hl263_13, hi263_13, hl263_14, hi263_14, hl263_15, hi263_15⟩ := at_T45 HR0.out x8_1 p263 q263
    obtain rfl : ad262 = ad263 := (by injection e263)
    have zo := aM hi263_3
    have zp := aM hl263_3
    clear hi263_3 hl263_3
    have zi := aM hi263_13
    have zj := aM hl263_13
    clear hi263_13 hl263_13
    have zk := aM hi263_14
    have zl := aM hl263_14
    clear hi263_14 hl263_14
    have zm := aM hi263_15
    have zn := aM hl263_15
    clear hi263_15 hl263_15
    replace p263 := eq_true p263
    replace q263 := eq_true q263
    have ea_ := Option.some.inj (hx262_3.symm.trans hx263_3)
    injection ea_ with ea_ en_ ec_
    subst ea_
    subst ec_
    clear en_
    have ea_ := Option.some.inj (hx262_13.symm.trans hx263_13)
    injection ea_ with ea_ en_ ec_
    subst ea_
    subst ec_
    clear en_
    have ea_ := Option.some.inj (hx262_14.symm.trans hx263_14)
    injection ea_ with ea_ en_ ec_
    subst ea_
    subst ec_
    clear en_
    have ea_ := Option.some.inj (hx262_15.symm.trans hx263_15)
    injection ea_ with ea_ en_ ec_
    subst ea_
    subst ec_
    clear en_
    have p264 : 0 ≤ (x8_1 : Int) := of_decide_eq_true pD
    have q264 : x8_1 < (l0.length : Int) := of_decide_eq_true pD
    obtain ⟨ad264, A264_3, c264_3, A264_13, c264_13, A264_14, c264_14, A264_15, c264_15, e264, hx264_0, hx264_1, hx264_2, hx264_3, hx264_4, hx264_5, hx264_6, hx264_7, hx264_8, hx264_9, hx264_10, hx264_11, hx264_12, hx264_13, hx264_14, hx264_15, hx264_16, hl264_3, hi264_3, hl264_13, hi264_13, hl264_14, hi264_14, hl264_15, hi264_15⟩ := at_T45 HR0.out x8_1 p264 q264
    obtain rfl : ad262 = ad264 := (by injection e264)
    have zw := aM hi264_3
    have zx := aM hl264_3
    clear hi264_3 hl264_3
    have zq := aM hi264_13
    have zr := aM hl264_13
    clear hi264_13 hl264_13
    have zs := aM hi264_14
    have zt := aM hl264_14
    clear hi264_14 hl264_14
    have zu := aM hi264_15
    have zv := aM hl264_15
    clear hi264_15 hl264_15
    replace p264 := eq_true p264
    replace q264 := eq_true q264
    have ea_ := Option.some.inj (hx262_3.symm.trans hx264_3)
    injection ea_ with ea_ en_ ec_
    subst ea_
    subst ec_
    clear en_
    have ea_ := Option.some.inj (hx262_13.symm.trans hx264_13)
    injection ea_ with ea_ en_ ec_
    subst ea_
    subst ec_
    clear en_
    have ea_ := Option.some.inj (hx262_14.symm.trans hx264_14)
    injection ea_ with ea_ en_ ec_
    subst ea_
    subst ec_
    clear en_
    have ea_ := Option.some.inj (hx262_15.symm.trans hx264_15)
    injection ea_ with ea_ en_ ec_
    subst ea_
    subst ec_
    clear en_
    have p265 : 0 ≤ (x8_1 : Int) := of_decide_eq_true pD
    have q265 : x8_1 < (l0.length : Int) := of_decide_eq_true pD
    obtain ⟨ad265, A265_3, c265_3, A265_13, c265_13, A265_14, c265_14, A265_15, c265_15, e265, hx265_0, hx265_1, hx265_2, hx265_3, hx265_4, hx265_5, hx265_6, hx265_7, hx265_8, hx265_9, hx265_10, hx265_11, hx265_12, hx265_13, hx265_14, hx265_15, hx265_16, hl265_3, hi265_3, hl265_13, hi265_13, hl265_14, hi265_14, hl265_15, hi265_15⟩ := at_T45 HR0.out x8_1 p265 q265
    obtain rfl : ad262 = ad265 := (by injection e265)
    have HR265_3 := aM hi265_3
    have HC265_3 := aM hl265_3
    clear hi265_3 hl265_3
    have HR265_13 := aM hi265_13
    have HC265_13 := aM hl265_13
    clear hi265_13 hl265_13
    have HR265_14 := aM hi265_14
    have HC265_14 := aM hl265_14
    clear hi265_14 hl265_14
    have HR265_15 := aM hi265_15
    have HC265_15 := aM hl265_15
    clear hi265_15 hl265_15
    replace p265 := eq_true p265
    replace q265 := eq_true q265
    have ea_ := Option.some.inj (hx262_3.symm.trans hx265_3)
    injection ea_ with ea_ en_ ec_
    subst ea_
    subst ec_
    clear en_
    have ea_ := Option.some.inj (hx262_13.symm.trans hx265_13)
    injection ea_ with ea_ en_ ec_
    subst ea_
    subst ec_
    clear en_
    have ea_ := Option.some.inj (hx262_14.symm.trans hx265_14)
    injection ea_ with ea_ en_ ec_
    subst ea_
    subst ec_
    clear en_
    have ea_ := Option.some.inj (hx262_15.symm.trans hx265_15)
    injection ea_ with ea_ en_ ec_
    subst ea_
    subst ec_
    clear en_
    go_wp2
    go_ret
    exact ⟨pF, by repeat (first | exact Drawn0.refl _ | apply Drawn0.step)⟩
   rw [if_neg c9] at H
   have c9b0 : decide (80 < (((rd_T45 l0 x8_1).f4.f9).length : Int)) = false := decide_eq_false c9
   have c9b1 : decide (80 < ((rd_T45 l0 x8_1).f4.f9).length) = false := decide_eq_false (by omega)
   clear c9
   have H' := aM H
   clear H
   have p262 : 0 ≤ (x8_1 : Int) := of_decide_eq_true pD
   have q262 : x8_1 < (l0.length : Int) := of_decide_eq_true pD
   obtain ⟨ad262, A262_3, c262_3, A262_13, c262_13, A262_14, c262_14, A262_15, c262_15, e262, hx262_0, hx262_1, hx262_2, hx262_3, hx262_4, hx262_5, hx262_6, hx262_7, hx262_8, hx262_9, hx262_10, hx262_11, hx262_12, hx262_13, hx262_14, hx262_15, hx262_16, hl262_3, hi262_3, hl262_13, hi262_13, hl262_14, hi262_14, hl262_15, hi262_15⟩ := at_T45 HR0.out x8_1 p262 q262
   cases e262
   have zg := aM hi262_3
   have zh := aM hl262_3
   clear hi262_3 hl262_3
   have za := aM hi262_13
   have zb := aM hl262_13
   clear hi262_13 hl262_13
   have zc := aM hi262_14
   have zd := aM hl262_14
   clear hi262_14 hl262_14
   have ze := aM hi262_15
   have zf := aM hl262_15
   clear hi262_15 hl262_15
   replace p262 := eq_true p262
   replace q262 := eq_true q262
   have p263 : 0 ≤ (x8_1 : Int) := of_decide_eq_true pD
   have q263 : x8_1 < (l0.length : Int) := of_decide_eq_true pD
   obtain ⟨ad263, A263_3, c263_3, A263_13, c263_13, A263_14, c263_14, A263_15, c263_15, e263, hx263_0, hx263_1, hx263_2, hx263_3, hx263_4, hx263_5, hx263_6, hx263_7, hx263_8, hx263_9, hx263_10, hx263_11, hx263_12, hx263_13, hx263_14, hx263_15, hx263_16, hl263_3, hi263_3, hl263_13, hi263_13, hl263_14, hi263_14, hl263_15, hi263_15⟩ := at_T45 HR0.out x8_1 p263 q263
   obtain rfl : ad262 = ad263 := (by injection e263)
   have zo := aM hi263_3
   have zp := aM hl263_3
   clear hi263_3 hl263_3
   have zi := aM hi263_13
   have zj := aM hl263_13
   clear hi263_13 hl263_13
   have zk := aM hi263_14
   have zl := aM hl263_14
   clear hi263_14 hl263_14
   have zm := aM hi263_15
   have zn := aM hl263_15
   clear hi263_15 hl263_15
   replace p263 := eq_true p263
   replace q263 := eq_true q263
   have ea_ := Option.some.inj (hx262_3.symm.trans hx263_3)
   injection ea_ with ea_ en_ ec_
   subst ea_
   subst ec_
   clear en_
   have ea_ := Option.some.inj (hx262_13.symm.trans hx263_13)
   injection ea_ with ea_ en_ ec_
   subst ea_
   subst ec_
   clear en_
   have ea_ := Option.some.inj (hx262_14.symm.trans hx263_14)
   injection ea_ with ea_ en_ ec_
   subst ea_
   subst ec_
   clear en_
   have ea_ := Option.some.inj (hx262_15.symm.trans hx263_15)
   injection ea_ with ea_ en_ ec_
   subst ea_
   subst ec_
   clear en_
   have p264 : 0 ≤ (x8_1 : Int) := of_decide_eq_true pD
   have q264 : x8_1 < (l0.length : Int) := of_decide_eq_true pD
   obtain ⟨ad264, A264_3, c264_3, A264_13, c264_13, A264_14, c264_14, A264_15, c264_15, e264, hx264_0, hx264_1, hx264_2, hx264_3, hx264_4, hx264_5, hx264_6, hx264_7, hx264_8, hx264_9, hx264_10, hx264_11, hx264_12, hx264_13, hx264_14, hx264_15, hx264_16, hl264_3, hi264_3, hl264_13, hi264_13, hl264_14, hi264_14, hl264_15, hi264_15⟩ := at_T45 HR0.out x8_1 p264 q264
   obtain rfl : ad262 = ad264 := (by injection e264)
   have zw := aM hi264_3
   have zx := aM hl264_3
   clear hi264_3 hl264_3
   have zq := aM hi264_13
   have zr := aM hl264_13
   clear hi264_13 hl264_13
   have zs := aM hi264_14
   have zt := aM hl264_14
   clear hi264_14 hl264_14
   have zu := aM hi264_15
   have zv := aM hl264_15
   clear hi264_15 hl264_15
   replace p264 := eq_true p264
   replace q264 := eq_true q264
   have ea_ := Option.some.inj (hx262_3.symm.trans hx264_3)
   injection ea_ with ea_ en_ ec_
   subst ea_
   subst ec_
   clear en_
   have ea_ := Option.some.inj (hx262_13.symm.trans hx264_13)
   injection ea_ with ea_ en_ ec_
   subst ea_
   subst ec_
   clear en_
   have ea_ := Option.some.inj (hx262_14.symm.trans hx264_14)
   injection ea_ with ea_ en_ ec_
   subst ea_
   subst ec_
   clear en_
   have ea_ := Option.some.inj (hx262_15.symm.trans hx264_15)
   injection ea_ with ea_ en_ ec_
   subst ea_
   subst ec_
   clear en_
   have p265 : 0 ≤ (x8_1 : Int) := of_decide_eq_true pD
   have q265 : x8_1 < (l0.length : Int) := of_decide_eq_true pD
   obtain ⟨ad265, A265_3, c265_3, A265_13, c265_13, A265_14, c265_14, A265_15, c265_15, e265, hx265_0, hx265_1, hx265_2, hx265_3, hx265_4, hx265_5, hx265_6, hx265_7, hx265_8, hx265_9, hx265_10, hx265_11, hx265_12, hx265_13, hx265_14, hx265_15, hx265_16, hl265_3, hi265_3, hl265_13, hi265_13, hl265_14, hi265_14, hl265_15, hi265_15⟩ := at_T45 HR0.out x8_1 p265 q265
   obtain rfl : ad262 = ad265 := (by injection e265)
   have HR265_3 := aM hi265_3
   have HC265_3 := aM hl265_3
   clear hi265_3 hl265_3
   have HR265_13 := aM hi265_13
   have HC265_13 := aM hl265_13
   clear hi265_13 hl265_13
   have HR265_14 := aM hi265_14
   have HC265_14 := aM hl265_14
   clear hi265_14 hl265_14
   have HR265_15 := aM hi265_15
   have HC265_15 := aM hl265_15
   clear hi265_15 hl265_15
   replace p265 := eq_true p265
   replace q265 := eq_true q265
   have ea_ := Option.some.inj (hx262_3.symm.trans hx265_3)
   injection ea_ with ea_ en_ ec_
   subst ea_
   subst ec_
   clear en_
   have ea_ := Option.some.inj (hx262_13.symm.trans hx265_13)
   injection ea_ with ea_ en_ ec_
   subst ea_
   subst ec_
   clear en_
   have ea_ := Option.some.inj (hx262_14.symm.trans hx265_14)
   injection ea_ with ea_ en_ ec_
   subst ea_
   subst ec_
   clear en_
   have ea_ := Option.some.inj (hx262_15.symm.trans hx265_15)
   injection ea_ with ea_ en_ ec_
   subst ea_
   subst ec_
   clear en_
   go_wp2
   go_roundg k1
   case measure => have := HK1.out; omega
   case rel => exact ⟨(wrap64 (x8_1 + 1)), (pF), H', ⟨by have := HK1.out; omega⟩, by repeat (first | exact Drawn0.refl _ | apply Drawn0.step)⟩
end Go.Proofs.Ytkohdojiockejaa.Q
