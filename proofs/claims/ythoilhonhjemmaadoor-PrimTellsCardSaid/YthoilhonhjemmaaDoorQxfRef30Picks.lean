-- By wip/gprint.py (this session's), out of the kit's print.py.
import Derived.Test.YthoilhonhjemmaaDoorQx0
import Derived.Test.YthoilhonhjemmaaDoorQxfRef30Choices
namespace Go.Proofs.YthoilhonhjemmaaDoor.Q
open Go.RowKit Go.Proofs.YthoilhonhjemmaaDoorW.PrintWords Go.Proofs.YthoilhonhjemmaaDoorW.PrintLast Go.Proofs.YthoilhonhjemmaaDoorW.PrintMore
attribute [local go_sem] max2_int min2_int max_two min_two max_three min_three max_four min_four   -- for this text's walks alone
set_option linter.unusedVariables false
set_option linter.unusedSimpArgs false

/-! ### gradineref30_Picks: function 24 -/
def gradineref30_Picks.f (a0 : Int) : Option (Bool) := (gradineref30_Choices.f a0).bind fun za => (if za > 0 then (some true) else (if a0 = 29 then (some true) else (some (a0 == 30))))
set_option maxHeartbeats 8000000 in
set_option maxRecDepth 100000 in
theorem gradineref30_Picks.calls (a0 : Int) (r : Bool) (w : World) (h : gradineref30_Picks.f a0 = some r) :
  Calls Tryd.prog 24 #[.int .i64 a0] w fun e w' => e = .returned (.bool r) ∧ Drawn0 w w' := by
 have H : ((gradineref30_Choices.f a0).bind fun za => (if za > 0 then (some true) else (if a0 = 29 then (some true) else (some (a0 == 30))))) = some r := h
 clear h
 replace H := Option.bind_eq_some_iff.mp H
 obtain ⟨za, A20, H⟩ := H
 try dsimp only at H
 have A2 := aM A20
 clear A20
 by_cases c3 : za > 0
 ·rw [if_pos c3] at H
  have c3b0 : decide (0 < za) = true := decide_eq_true c3
  clear c3
  obtain rfl := Option.some.inj H
  go_enter Tryd.func24, Tryd.ntmps24
  go_wp2_with (first | ((with_reducible refine gate_callee (f := 22) rfl ?_); refine goesL_ (some 4) rfl rfl Tryd.func22 (by kernel_rfl) rfl #[.int .i64 a0] rfl pA ?_; (with_reducible refine (gradineref30_Choices.calls a0 za _ A2.out).mono ?_); rintro e w' ⟨rfl, ⟨nd, rfl⟩⟩; refine ⟨_, rfl, ?_⟩))
  go_ret
  exact ⟨pF, by repeat (first | exact Drawn0.refl _ | apply Drawn0.step)⟩
 rw [if_neg c3] at H
 have c3b0 : decide (0 < za) = false := decide_eq_false c3
 clear c3
 by_cases c4 : a0 = 29
 ·rw [if_pos c4] at H
  have c4b0 : (a0 == 29) = true := beq_iff_eq.mpr c4
  have c4b1 : (a0 != 29) = false := bne_eq_false_iff_eq.mpr c4
  clear c4
  obtain rfl := Option.some.inj H
  go_enter Tryd.func24, Tryd.ntmps24
  go_wp2_with (first | ((with_reducible refine gate_callee (f := 22) rfl ?_); refine goesL_ (some 4) rfl rfl Tryd.func22 (by kernel_rfl) rfl #[.int .i64 a0] rfl pA ?_; (with_reducible refine (gradineref30_Choices.calls a0 za _ A2.out).mono ?_); rintro e w' ⟨rfl, ⟨nd, rfl⟩⟩; refine ⟨_, rfl, ?_⟩))
  go_ret
  exact ⟨pF, by repeat (first | exact Drawn0.refl _ | apply Drawn0.step)⟩
 rw [if_neg c4] at H
 have c4b0 : (a0 == 29) = false := beq_eq_false_iff_ne.mpr c4
 have c4b1 : (a0 != 29) = true := bne_iff_ne.mpr c4
 obtain rfl := Option.some.inj H
 go_enter Tryd.func24, Tryd.ntmps24
 go_wp2_with (first | ((with_reducible refine gate_callee (f := 22) rfl ?_); refine goesL_ (some 4) rfl rfl Tryd.func22 (by kernel_rfl) rfl #[.int .i64 a0] rfl pA ?_; (with_reducible refine (gradineref30_Choices.calls a0 za _ A2.out).mono ?_); rintro e w' ⟨rfl, ⟨nd, rfl⟩⟩; refine ⟨_, rfl, ?_⟩))
 go_ret
 exact ⟨pF, by repeat (first | exact Drawn0.refl _ | apply Drawn0.step)⟩

end Go.Proofs.YthoilhonhjemmaaDoor.Q
