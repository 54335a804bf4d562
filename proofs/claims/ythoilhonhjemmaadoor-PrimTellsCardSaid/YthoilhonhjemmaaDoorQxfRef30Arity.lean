-- By wip/gprint.py (this session's), out of the kit's print.py.
import Derived.Test.YthoilhonhjemmaaDoorQx0
namespace Go.Proofs.YthoilhonhjemmaaDoor.Q
open Go.RowKit Go.Proofs.YthoilhonhjemmaaDoorW.PrintWords Go.Proofs.YthoilhonhjemmaaDoorW.PrintLast Go.Proofs.YthoilhonhjemmaaDoorW.PrintMore
attribute [local go_sem] max2_int min2_int max_two min_two max_three min_three max_four min_four   -- for this text's walks alone
set_option linter.unusedVariables false
set_option linter.unusedSimpArgs false

/-! ### gradineref30_Arity: function 13 -/
mutual
def gradineref30_Arity.j0 : Nat → Int → Bool → Option (Int)
 | 0, _, _ => none
 | k + 1, x0, x8 => if x8 = true then (some 0) else (if x0 ≥ 17 then (if x0 ≤ 23 then (gradineref30_Arity.j1 k x0 true) else (if x0 = 32 then (gradineref30_Arity.j1 k x0 true) else (gradineref30_Arity.j1 k x0 (x0 == 40)))) else (if x0 = 32 then (gradineref30_Arity.j1 k x0 true) else (gradineref30_Arity.j1 k x0 (x0 == 40))))
def gradineref30_Arity.j1 : Nat → Int → Bool → Option (Int)
 | 0, _, _ => none
 | k + 1, x0, x22 => if x22 = true then (some 2) else (if x0 ≥ 24 then (if x0 ≤ 26 then (some 3) else (some 1)) else (some 1))
end
def gradineref30_Arity.f (k : Nat) (a0 : Int) : Option (Int) := if a0 < 1 then (gradineref30_Arity.j0 k a0 true) else (gradineref30_Arity.j0 k a0 (decide (a0 > 40)))
set_option maxHeartbeats 8000000 in
set_option maxRecDepth 100000 in
theorem gradineref30_Arity.calls (k : Nat) (a0 : Int) (r : Int) (w : World) (h : gradineref30_Arity.f k a0 = some r) :
  Calls Tryd.prog 13 #[.int .i64 a0] w fun e w' => e = .returned (.int .i64 r) ∧ Drawn0 w w' := by
 have H : (if a0 < 1 then (gradineref30_Arity.j0 k a0 true) else (gradineref30_Arity.j0 k a0 (decide (a0 > 40)))) = some r := h
 clear h
 have HC2 := aM H
 clear H
 go_enter Tryd.func13, Tryd.ntmps13
 go_upto_region 1 with (fail)
 go_cut [8] (fun v8 wc => ∃ (kq : Nat) (x8_1 : Bool), v8 = .bool x8_1 ∧ Aside0 (gradineref30_Arity.j0 kq a0 x8_1 = some r) ∧ Aside0 (kq ≤ k) ∧ Drawn0 w wc)
 case first =>
  have H := HC2.out
  clear HC2
  by_cases c3 : a0 < 1
  ·rw [if_pos c3] at H
   have za : decide (a0 < 1) = true := decide_eq_true c3
   clear c3
   (first | rw [za] | (simp only [i64_w, i32_w]; rw [za]) | skip)
   have H' := aM H
   clear H
   go_wp2
   go_meet
   case rel => exact ⟨_, (true), (pF), H', ⟨by first | omega | exact Nat.le_refl _⟩, by repeat (first | exact Drawn0.refl _ | apply Drawn0.step)⟩
  rw [if_neg c3] at H
  have za : decide (a0 < 1) = false := decide_eq_false c3
  clear c3
  (first | rw [za] | (simp only [i64_w, i32_w]; rw [za]) | skip)
  have H' := aM H
  clear H
  go_wp2
  go_meet
  case rel => exact ⟨_, (decide (a0 > 40)), (pF), H', ⟨by first | omega | exact Nat.le_refl _⟩, by repeat (first | exact Drawn0.refl _ | apply Drawn0.step)⟩
 case rest =>
  clear HC2
  obtain ⟨kq, x8_1, rfl, HA, HJ1, ⟨mc1, rfl⟩⟩ := hcut
  cases kq with
  | zero => exact absurd HA.out (by simp [gradineref30_Arity.j0])
  | succ kj1 =>
   have H := HA.out
   clear HA
   simp only [gradineref30_Arity.j0] at H
   by_cases c4 : x8_1 = true
   ·subst c4
    rw [if_pos rfl] at H
    obtain rfl := Option.some.inj H
    go_wp2
    go_ret
    exact ⟨pF, by repeat (first | exact Drawn0.refl _ | apply Drawn0.step)⟩
   replace c4 := Bool.eq_false_iff.mpr c4
   subst c4
   rw [if_neg (show ¬ (false = true) by decide)] at H
   have HC5 := aM H
   clear H
   go_upto_region 3 with (fail)
   go_cut [22] (fun v22 wc => ∃ (kq : Nat) (x22_4 : Bool), v22 = .bool x22_4 ∧ Aside0 (gradineref30_Arity.j1 kq a0 x22_4 = some r) ∧ Aside0 (kq ≤ kj1) ∧ Drawn0 w wc)
   case first =>
    have H := HC5.out
    clear HC5
    by_cases c6 : a0 ≥ 17
    rotate_left
    ·rw [if_neg c6] at H
     have zb : decide (17 ≤ a0) = false := decide_eq_false c6
     clear c6
     (first | rw [zb] | (simp only [i64_w, i32_w]; rw [zb]) | skip)
     by_cases c9 : a0 = 32
     rotate_left
     ·rw [if_neg c9] at H
      have c9b0 : (a0 == 32) = false := beq_eq_false_iff_ne.mpr c9
      have c9b1 : (a0 != 32) = true := bne_iff_ne.mpr c9
      have H' := aM H
      clear H
      go_wp2
      go_meet
      case rel => exact ⟨_, ((a0 == 40)), (pF), H', ⟨by have := HJ1.out; first | omega | exact Nat.le_refl _⟩, by repeat (first | exact Drawn0.refl _ | apply Drawn0.step)⟩
     rw [if_pos c9] at H
     have c9b0 : (a0 == 32) = true := beq_iff_eq.mpr c9
     have c9b1 : (a0 != 32) = false := bne_eq_false_iff_eq.mpr c9
     clear c9
     have H' := aM H
     clear H
     go_wp2
     go_meet
     case rel => exact ⟨_, (true), (pF), H', ⟨by have := HJ1.out; first | omega | exact Nat.le_refl _⟩, by repeat (first | exact Drawn0.refl _ | apply Drawn0.step)⟩
    rw [if_pos c6] at H
    have zb : decide (17 ≤ a0) = true := decide_eq_true c6
    clear c6
    (first | rw [zb] | (simp only [i64_w, i32_w]; rw [zb]) | skip)
    by_cases c7 : a0 ≤ 23
    ·rw [if_pos c7] at H
     have c7b0 : decide (a0 ≤ 23) = true := decide_eq_true c7
     clear c7
     have H' := aM H
     clear H
     go_wp2
     go_meet
     case rel => exact ⟨_, (true), (pF), H', ⟨by have := HJ1.out; first | omega | exact Nat.le_refl _⟩, by repeat (first | exact Drawn0.refl _ | apply Drawn0.step)⟩
    rw [if_neg c7] at H
    have c7b0 : decide (a0 ≤ 23) = false := decide_eq_false c7
    clear c7
    by_cases c8 : a0 = 32
    rotate_left
    ·rw [if_neg c8] at H
     have c8b0 : (a0 == 32) = false := beq_eq_false_iff_ne.mpr c8
     have c8b1 : (a0 != 32) = true := bne_iff_ne.mpr c8
     have H' := aM H
     clear H
     go_wp2
     go_meet
     case rel => exact ⟨_, ((a0 == 40)), (pF), H', ⟨by have := HJ1.out; first | omega | exact Nat.le_refl _⟩, by repeat (first | exact Drawn0.refl _ | apply Drawn0.step)⟩
    rw [if_pos c8] at H
    have c8b0 : (a0 == 32) = true := beq_iff_eq.mpr c8
    have c8b1 : (a0 != 32) = false := bne_eq_false_iff_eq.mpr c8
    clear c8
    have H' := aM H
    clear H
    go_wp2
    go_meet
    case rel => exact ⟨_, (true), (pF), H', ⟨by have := HJ1.out; first | omega | exact Nat.le_refl _⟩, by repeat (first | exact Drawn0.refl _ | apply Drawn0.step)⟩
   case rest =>
    clear HC5
    try clear c4
    obtain ⟨kq, x22_4, rfl, HA, HJ4, ⟨mc4, rfl⟩⟩ := hcut
    cases kq with
    | zero => exact absurd HA.out (by simp [gradineref30_Arity.j1])
    | succ kj4 =>
     have H := HA.out
     clear HA
     simp only [gradineref30_Arity.j1] at H
     by_cases c10 : x22_4 = true
     ·subst c10
      rw [if_pos rfl] at H
      obtain rfl := Option.some.inj H
      go_wp2
      go_ret
      exact ⟨pF, by repeat (first | exact Drawn0.refl _ | apply Drawn0.step)⟩
     replace c10 := Bool.eq_false_iff.mpr c10
     subst c10
     rw [if_neg (show ¬ (false = true) by decide)] at H
     by_cases c11 : a0 ≥ 24
     rotate_left
     ·rw [if_neg c11] at H
      have c11b0 : decide (24 ≤ a0) = false := decide_eq_false c11
      clear c11
      obtain rfl := Option.some.inj H
      go_wp2
      go_ret
      exact ⟨pF, by repeat (first | exact Drawn0.refl _ | apply Drawn0.step)⟩

     rw [if_pos c11] at H
     have c11b0 : decide (24 ≤ a0) = true := decide_eq_true c11
     clear c11
     by_cases c12 : a0 ≤ 26
     ·rw [if_pos c12] at H
      have c12b0 : decide (a0 ≤ 26) = true := decide_eq_true c12
      clear c12
      obtain rfl := Option.some.inj H
      go_wp2
      go_ret
      exact ⟨pF, by repeat (first | exact Drawn0.refl _ | apply Drawn0.step)⟩
     rw [if_neg c12] at H
     have c12b0 : decide (a0 ≤ 26) = false := decide_eq_false c12
     clear c12
     obtain rfl := Option.some.inj H
     go_wp2
     go_ret
     exact ⟨pF, by repeat (first | exact Drawn0.refl _ | apply Drawn0.step)⟩
end Go.Proofs.YthoilhonhjemmaaDoor.Q
