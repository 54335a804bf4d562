-- By wip/gprint.py (this session's), out of the kit's print.py.
import Derived.Test.YthoilhonhjemmaaDoorQx0
namespace Go.Proofs.YthoilhonhjemmaaDoor.Q
open Go.RowKit Go.Proofs.YthoilhonhjemmaaDoorW.PrintWords Go.Proofs.YthoilhonhjemmaaDoorW.PrintLast Go.Proofs.YthoilhonhjemmaaDoorW.PrintMore
attribute [local go_sem] max2_int min2_int max_two min_two max_three min_three max_four min_four   -- for this text's walks alone
set_option linter.unusedVariables false
set_option linter.unusedSimpArgs false

/-! ### gradineref30_Choices: function 22 -/
def gradineref30_Choices.f (a0 : Int) : Option (Int) := if a0 = 15 then (some 3) else (if a0 = 4 then (some 2) else (if a0 = 6 then (some 2) else (if a0 = 16 then (some 2) else (if a0 = 21 then (some 2) else (if a0 = 22 then (some 2) else (if a0 = 24 then (some 2) else (some 0)))))))
set_option maxHeartbeats 8000000 in
set_option maxRecDepth 100000 in
theorem gradineref30_Choices.calls (a0 : Int) (r : Int) (w : World) (h : gradineref30_Choices.f a0 = some r) :
  Calls Tryd.prog 22 #[.int .i64 a0] w fun e w' => e = .returned (.int .i64 r) ∧ Drawn0 w w' := by
 have H : (if a0 = 15 then (some 3) else (if a0 = 4 then (some 2) else (if a0 = 6 then (some 2) else (if a0 = 16 then (some 2) else (if a0 = 21 then (some 2) else (if a0 = 22 then (some 2) else (if a0 = 24 then (some 2) else (some 0)))))))) = some r := h
 clear h
 by_cases c2 : a0 = 15
 ·rw [if_pos c2] at H
  have c2b0 : (a0 == 15) = true := beq_iff_eq.mpr c2
  have c2b1 : (a0 != 15) = false := bne_eq_false_iff_eq.mpr c2
  clear c2
  obtain rfl := Option.some.inj H
  go_enter Tryd.func22, Tryd.ntmps22
  go_wp2
  go_ret
  exact ⟨pF, by repeat (first | exact Drawn0.refl _ | apply Drawn0.step)⟩
 rw [if_neg c2] at H
 have c2b0 : (a0 == 15) = false := beq_eq_false_iff_ne.mpr c2
 have c2b1 : (a0 != 15) = true := bne_iff_ne.mpr c2
 by_cases c3 : a0 = 4
 ·rw [if_pos c3] at H
  have c3b0 : (a0 == 4) = true := beq_iff_eq.mpr c3
  have c3b1 : (a0 != 4) = false := bne_eq_false_iff_eq.mpr c3
  clear c3
  obtain rfl := Option.some.inj H
  go_enter Tryd.func22, Tryd.ntmps22
  go_wp2
  go_ret
  exact ⟨pF, by repeat (first | exact Drawn0.refl _ | apply Drawn0.step)⟩
 rw [if_neg c3] at H
 have c3b0 : (a0 == 4) = false := beq_eq_false_iff_ne.mpr c3
 have c3b1 : (a0 != 4) = true := bne_iff_ne.mpr c3
 by_cases c4 : a0 = 6
 ·rw [if_pos c4] at H
  have c4b0 : (a0 == 6) = true := beq_iff_eq.mpr c4
  have c4b1 : (a0 != 6) = false := bne_eq_false_iff_eq.mpr c4
  clear c4
  obtain rfl := Option.some.inj H
  go_enter Tryd.func22, Tryd.ntmps22
  go_wp2
  go_ret
  exact ⟨pF, by repeat (first | exact Drawn0.refl _ | apply Drawn0.step)⟩
 rw [if_neg c4] at H
 have c4b0 : (a0 == 6) = false := beq_eq_false_iff_ne.mpr c4
 have c4b1 : (a0 != 6) = true := bne_iff_ne.mpr c4
 by_cases c5 : a0 = 16
 ·rw [if_pos c5] at H
  have c5b0 : (a0 == 16) = true := beq_iff_eq.mpr c5
  have c5b1 : (a0 != 16) = false := bne_eq_false_iff_eq.mpr c5
  clear c5
  obtain rfl := Option.some.inj H
  go_enter Tryd.func22, Tryd.ntmps22
  go_wp2
  go_ret
  exact ⟨pF, by repeat (first | exact Drawn0.refl _ | apply Drawn0.step)⟩
 rw [if_neg c5] at H
 have c5b0 : (a0 == 16) = false := beq_eq_false_iff_ne.mpr c5
 have c5b1 : (a0 != 16) = true := bne_iff_ne.mpr c5
 by_cases c6 : a0 = 21
 ·rw [if_pos c6] at H
  have c6b0 : (a0 == 21) = true := beq_iff_eq.mpr c6
  have c6b1 : (a0 != 21) = false := bne_eq_false_iff_eq.mpr c6
  clear c6
  obtain rfl := Option.some.inj H
  go_enter Tryd.func22, Tryd.ntmps22
  go_wp2
  go_ret
  exact ⟨pF, by repeat (first | exact Drawn0.refl _ | apply Drawn0.step)⟩
 rw [if_neg c6] at H
 have c6b0 : (a0 == 21) = false := beq_eq_false_iff_ne.mpr c6
 have c6b1 : (a0 != 21) = true := bne_iff_ne.mpr c6
 by_cases c7 : a0 = 22
 ·rw [if_pos c7] at H
  have c7b0 : (a0 == 22) = true := beq_iff_eq.mpr c7
  have c7b1 : (a0 != 22) = false := bne_eq_false_iff_eq.mpr c7
  clear c7
  obtain rfl := Option.some.inj H
  go_enter Tryd.func22, Tryd.ntmps22
  go_wp2
  go_ret
  exact ⟨pF, by repeat (first | exact Drawn0.refl _ | apply Drawn0.step)⟩
 rw [if_neg c7] at H
 have c7b0 : (a0 == 22) = false := beq_eq_false_iff_ne.mpr c7
 have c7b1 : (a0 != 22) = true := bne_iff_ne.mpr c7
 by_cases c8 : a0 = 24
 ·rw [if_pos c8] at H
  have c8b0 : (a0 == 24) = true := beq_iff_eq.mpr c8
  have c8b1 : (a0 != 24) = false := bne_eq_false_iff_eq.mpr c8
  clear c8
  obtain rfl := Option.some.inj H
  go_enter Tryd.func22, Tryd.ntmps22
  go_wp2
  go_ret
  exact ⟨pF, by repeat (first | exact Drawn0.refl _ | apply Drawn0.step)⟩
 rw [if_neg c8] at H
 have c8b0 : (a0 == 24) = false := beq_eq_false_iff_ne.mpr c8
 have c8b1 : (a0 != 24) = true := bne_iff_ne.mpr c8
 obtain rfl := Option.some.inj H
 go_enter Tryd.func22, Tryd.ntmps22
 go_wp2
 go_ret
 exact ⟨pF, by repeat (first | exact Drawn0.refl _ | apply Drawn0.step)⟩

end Go.Proofs.YthoilhonhjemmaaDoor.Q
