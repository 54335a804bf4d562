-- By wip/gprint.py (this session's), out of the kit's print.py.
import Derived.Test.YthoilhonhjemmaaDoorQx0
namespace Go.Proofs.YthoilhonhjemmaaDoor.Q
open Go.RowKit Go.Proofs.YthoilhonhjemmaaDoorW.PrintWords Go.Proofs.YthoilhonhjemmaaDoorW.PrintLast Go.Proofs.YthoilhonhjemmaaDoorW.PrintMore
attribute [local go_sem] max2_int min2_int max_two min_two max_three min_three max_four min_four   -- for this text's walks alone
set_option linter.unusedVariables false
set_option linter.unusedSimpArgs false

/-! ### gradineref30_Flat: function 16 -/
def gradineref30_Flat.f (a0 : Int) : Option (Bool) := if a0 = 5 then (some true) else (if a0 = 23 then (some true) else (some (a0 == 31)))
set_option maxHeartbeats 8000000 in
set_option maxRecDepth 100000 in
theorem gradineref30_Flat.calls (a0 : Int) (r : Bool) (w : World) (h : gradineref30_Flat.f a0 = some r) :
  Calls Tryd.prog 16 #[.int .i64 a0] w fun e w' => e = .returned (.bool r) ∧ Drawn0 w w' := by
 have H : (if a0 = 5 then (some true) else (if a0 = 23 then (some true) else (some (a0 == 31)))) = some r := h
 clear h
 by_cases c2 : a0 = 5
 ·rw [if_pos c2] at H
  have c2b0 : (a0 == 5) = true := beq_iff_eq.mpr c2
  have c2b1 : (a0 != 5) = false := bne_eq_false_iff_eq.mpr c2
  clear c2
  obtain rfl := Option.some.inj H
  go_enter Tryd.func16, Tryd.ntmps16
  go_wp2
  go_ret
  exact ⟨pF, by repeat (first | exact Drawn0.refl _ | apply Drawn0.step)⟩
 rw [if_neg c2] at H
 have c2b0 : (a0 == 5) = false := beq_eq_false_iff_ne.mpr c2
 have c2b1 : (a0 != 5) = true := bne_iff_ne.mpr c2
 by_cases c3 : a0 = 23
 ·rw [if_pos c3] at H
  have c3b0 : (a0 == 23) = true := beq_iff_eq.mpr c3
  have c3b1 : (a0 != 23) = false := bne_eq_false_iff_eq.mpr c3
  clear c3
  obtain rfl := Option.some.inj H
  go_enter Tryd.func16, Tryd.ntmps16
  go_wp2
  go_ret
  exact ⟨pF, by repeat (first | exact Drawn0.refl _ | apply Drawn0.step)⟩
 rw [if_neg c3] at H
 have c3b0 : (a0 == 23) = false := beq_eq_false_iff_ne.mpr c3
 have c3b1 : (a0 != 23) = true := bne_iff_ne.mpr c3
 obtain rfl := Option.some.inj H
 go_enter Tryd.func16, Tryd.ntmps16
 go_wp2
 go_ret
 exact ⟨pF, by repeat (first | exact Drawn0.refl _ | apply Drawn0.step)⟩

end Go.Proofs.YthoilhonhjemmaaDoor.Q
