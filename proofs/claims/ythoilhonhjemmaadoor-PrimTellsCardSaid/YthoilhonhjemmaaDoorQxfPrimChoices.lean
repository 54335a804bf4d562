-- By wip/gprint.py (this session's), out of the kit's print.py.
import Derived.Test.YthoilhonhjemmaaDoorQx0
namespace Go.Proofs.YthoilhonhjemmaaDoor.Q
open Go.RowKit Go.Proofs.YthoilhonhjemmaaDoorW.PrintWords Go.Proofs.YthoilhonhjemmaaDoorW.PrintLast Go.Proofs.YthoilhonhjemmaaDoorW.PrintMore
attribute [local go_sem] max2_int min2_int max_two min_two max_three min_three max_four min_four   -- for this text's walks alone
set_option linter.unusedVariables false
set_option linter.unusedSimpArgs false

/-! ### prim_Choices: function 21 -/
def prim_Choices.j0 : Nat → Int → Bool → Option (Int)
 | 0, _, _ => none
 | k + 1, x3, x4 => if x4 = true then (some 2) else (if x3 = 15 then (some 3) else (some 0))
def prim_Choices.f (k : Nat) (a0 : Int) : Option (Int) := if a0 = 4 then (prim_Choices.j0 k a0 (a0 == 4)) else (if a0 = 6 then (prim_Choices.j0 k a0 (a0 == 6)) else (if a0 = 16 then (prim_Choices.j0 k a0 (a0 == 16)) else (if a0 = 21 then (prim_Choices.j0 k a0 (a0 == 21)) else (if a0 = 22 then (prim_Choices.j0 k a0 (a0 == 22)) else (prim_Choices.j0 k a0 (a0 == 24))))))
set_option maxHeartbeats 8000000 in
set_option maxRecDepth 100000 in
theorem prim_Choices.calls (k : Nat) (a0 : Int) (r : Int) (w : World) (h : prim_Choices.f k a0 = some r) :
  Calls Tryd.prog 21 #[.int .i64 a0] w fun e w' => e = .returned (.int .i64 r) ∧ Drawn0 w w' := by
 have H : (if a0 = 4 then (prim_Choices.j0 k a0 (a0 == 4)) else (if a0 = 6 then (prim_Choices.j0 k a0 (a0 == 6)) else (if a0 = 16 then (prim_Choices.j0 k a0 (a0 == 16)) else (if a0 = 21 then (prim_Choices.j0 k a0 (a0 == 21)) else (if a0 = 22 then (prim_Choices.j0 k a0 (a0 == 22)) else (prim_Choices.j0 k a0 (a0 == 24))))))) = some r := h
 clear h
 have HC2 := aM H
 clear H
 go_enter Tryd.func21, Tryd.ntmps21
 go_upto_if 4 with (fail)
 go_cut [4] (fun v4 wc => ∃ (kq : Nat) (x4_1 : Bool), v4 = .bool x4_1 ∧ Aside0 (prim_Choices.j0 kq a0 x4_1 = some r) ∧ Aside0 (kq ≤ k) ∧ Drawn0 w wc)
 case first =>
  have H := HC2.out
  clear HC2
  by_cases c3 : a0 = 4
  ·rw [if_pos c3] at H
   have za : (a0 == 4) = true := beq_iff_eq.mpr c3
   have c3b1 : (a0 != 4) = false := bne_eq_false_iff_eq.mpr c3
   clear c3
   (first | rw [za] | (simp only [i64_w, i32_w]; rw [za]) | skip)
   have H' := aM H
   clear H
   go_wp2
   go_meet
   case rel => exact ⟨_, ((a0 == 4)), (pF), H', ⟨by first | omega | exact Nat.le_refl _⟩, by repeat (first | exact Drawn0.refl _ | apply Drawn0.step)⟩
  rw [if_neg c3] at H
  have za : (a0 == 4) = false := beq_eq_false_iff_ne.mpr c3
  have c3b1 : (a0 != 4) = true := bne_iff_ne.mpr c3
  (first | rw [za] | (simp only [i64_w, i32_w]; rw [za]) | skip)
  by_cases c4 : a0 = 6
  ·rw [if_pos c4] at H
   have c4b0 : (a0 == 6) = true := beq_iff_eq.mpr c4
   have c4b1 : (a0 != 6) = false := bne_eq_false_iff_eq.mpr c4
   clear c4
   have H' := aM H
   clear H
   go_wp2
   go_meet
   case rel => exact ⟨_, ((a0 == 6)), (pF), H', ⟨by first | omega | exact Nat.le_refl _⟩, by repeat (first | exact Drawn0.refl _ | apply Drawn0.step)⟩
  rw [if_neg c4] at H
  have c4b0 : (a0 == 6) = false := beq_eq_false_iff_ne.mpr c4
  have c4b1 : (a0 != 6) = true := bne_iff_ne.mpr c4
  by_cases c5 : a0 = 16
  ·rw [if_pos c5] at H
   have c5b0 : (a0 == 16) = true := beq_iff_eq.mpr c5
   have c5b1 : (a0 != 16) = false := bne_eq_false_iff_eq.mpr c5
   clear c5
   have H' := aM H
   clear H
   go_wp2
   go_meet
   case rel => exact ⟨_, ((a0 == 16)), (pF), H', ⟨by first | omega | exact Nat.le_refl _⟩, by repeat (first | exact Drawn0.refl _ | apply Drawn0.step)⟩
  rw [if_neg c5] at H
  have c5b0 : (a0 == 16) = false := beq_eq_false_iff_ne.mpr c5
  have c5b1 : (a0 != 16) = true := bne_iff_ne.mpr c5
  by_cases c6 : a0 = 21
  ·rw [if_pos c6] at H
   have c6b0 : (a0 == 21) = true := beq_iff_eq.mpr c6
   have c6b1 : (a0 != 21) = false := bne_eq_false_iff_eq.mpr c6
   clear c6
   have H' := aM H
   clear H
   go_wp2
   go_meet
   case rel => exact ⟨_, ((a0 == 21)), (pF), H', ⟨by first | omega | exact Nat.le_refl _⟩, by repeat (first | exact Drawn0.refl _ | apply Drawn0.step)⟩
  rw [if_neg c6] at H
  have c6b0 : (a0 == 21) = false := beq_eq_false_iff_ne.mpr c6
  have c6b1 : (a0 != 21) = true := bne_iff_ne.mpr c6
  by_cases c7 : a0 = 22
  rotate_left
  ·rw [if_neg c7] at H
   have c7b0 : (a0 == 22) = false := beq_eq_false_iff_ne.mpr c7
   have c7b1 : (a0 != 22) = true := bne_iff_ne.mpr c7
   have H' := aM H
   clear H
   go_wp2
   go_meet
   case rel => exact ⟨_, ((a0 == 24)), (pF), H', ⟨by first | omega | exact Nat.le_refl _⟩, by repeat (first | exact Drawn0.refl _ | apply Drawn0.step)⟩
  rw [if_pos c7] at H
  have c7b0 : (a0 == 22) = true := beq_iff_eq.mpr c7
  have c7b1 : (a0 != 22) = false := bne_eq_false_iff_eq.mpr c7
  clear c7
  have H' := aM H
  clear H
  go_wp2
  go_meet
  case rel => exact ⟨_, ((a0 == 22)), (pF), H', ⟨by first | omega | exact Nat.le_refl _⟩, by repeat (first | exact Drawn0.refl _ | apply Drawn0.step)⟩
 case rest =>
  clear HC2
  obtain ⟨kq, x4_1, rfl, HA, HJ1, ⟨mc1, rfl⟩⟩ := hcut
  cases kq with
  | zero => exact absurd HA.out (by simp [prim_Choices.j0])
  | succ kj1 =>
   have H := HA.out
   clear HA
   simp only [prim_Choices.j0] at H
   by_cases c8 : x4_1 = true
   ·subst c8
    rw [if_pos rfl] at H
    obtain rfl := Option.some.inj H
    go_wp2
    go_ret
    exact ⟨pF, by repeat (first | exact Drawn0.refl _ | apply Drawn0.step)⟩
   replace c8 := Bool.eq_false_iff.mpr c8
   subst c8
   rw [if_neg (show ¬ (false = true) by decide)] at H
   by_cases c9 : a0 = 15
   ·rw [if_pos c9] at H
    have c9b0 : (a0 == 15) = true := beq_iff_eq.mpr c9
    have c9b1 : (a0 != 15) = false := bne_eq_false_iff_eq.mpr c9
    clear c9
    obtain rfl := Option.some.inj H
    go_wp2
    go_ret
    exact ⟨pF, by repeat (first | exact Drawn0.refl _ | apply Drawn0.step)⟩
   rw [if_neg c9] at H
   have c9b0 : (a0 == 15) = false := beq_eq_false_iff_ne.mpr c9
   have c9b1 : (a0 != 15) = true := bne_iff_ne.mpr c9
   obtain rfl := Option.some.inj H
   go_wp2
   go_ret
   exact ⟨pF, by repeat (first | exact Drawn0.refl _ | apply Drawn0.step)⟩

end Go.Proofs.YthoilhonhjemmaaDoor.Q
