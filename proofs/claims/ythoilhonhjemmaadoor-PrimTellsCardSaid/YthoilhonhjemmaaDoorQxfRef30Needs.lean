-- By wip/gprint.py (this session's), out of the kit's print.py.
import Derived.Test.YthoilhonhjemmaaDoorQx0
import Derived.Test.YthoilhonhjemmaaDoorQxfRef30Arity
namespace Go.Proofs.YthoilhonhjemmaaDoor.Q
open Go.RowKit Go.Proofs.YthoilhonhjemmaaDoorW.PrintWords Go.Proofs.YthoilhonhjemmaaDoorW.PrintLast Go.Proofs.YthoilhonhjemmaaDoorW.PrintMore
attribute [local go_sem] max2_int min2_int max_two min_two max_three min_three max_four min_four   -- for this text's walks alone
set_option linter.unusedVariables false
set_option linter.unusedSimpArgs false

/-! ### gradineref30_Needs: function 20 -/
def gradineref30_Needs.j0 : Nat → Int → Int → Int → Bool → Option (Bool)
 | 0, _, _, _, _ => none
 | k + 1, x0, x1, x2, x19 => if x19 = true then (some false) else ((gradineref30_Arity.f k x0).bind fun za => (if x2 = za then (if x0 = 2 then (some true) else (if x0 ≥ 9 then (if x0 ≤ 11 then (some true) else (if x0 = 7 then (some true) else (some (x0 == 20)))) else (if x0 = 7 then (some true) else (some (x0 == 20))))) else (if x0 = 12 then (if x1 = 0 then (some false) else (some (x1 != 1))) else (if x0 = 20 then (some (x2 == 1)) else (if x0 = 25 then (some (decide (x2 < 2))) else (if x0 = 3 then (some true) else (if x0 = 8 then (some true) else (if x0 = 19 then (some true) else (if x0 = 26 then (some true) else (some (x0 == 32)))))))))))
def gradineref30_Needs.f (k : Nat) (a0 : Int) (a1 : Int) (a2 : Int) : Option (Bool) := if a2 < 0 then (gradineref30_Needs.j0 k a0 a1 a2 true) else ((gradineref30_Arity.f k a0).bind fun zb => (if a2 > zb then (gradineref30_Needs.j0 k a0 a1 a2 true) else ((gradineref30_Arity.f k a0).bind fun zc => (gradineref30_Needs.j0 k a0 a1 a2 (zc == 0)))))
set_option maxHeartbeats 8000000 in
set_option maxRecDepth 100000 in
theorem gradineref30_Needs.calls (k : Nat) (a0 : Int) (a1 : Int) (a2 : Int) (r : Bool) (w : World) (h : gradineref30_Needs.f k a0 a1 a2 = some r) :
  Calls Tryd.prog 20 #[.int .i64 a0, .int .i64 a1, .int .i64 a2] w fun e w' => e = .returned (.bool r) ∧ Drawn0 w w' := by
 have H : (if a2 < 0 then (gradineref30_Needs.j0 k a0 a1 a2 true) else ((gradineref30_Arity.f k a0).bind fun zb => (if a2 > zb then (gradineref30_Needs.j0 k a0 a1 a2 true) else ((gradineref30_Arity.f k a0).bind fun zc => (gradineref30_Needs.j0 k a0 a1 a2 (zc == 0)))))) = some r := h
 clear h
 have HC4 := aM H
 clear H
 go_enter Tryd.func20, Tryd.ntmps20
 go_upto_region 1 with (fail)
 go_cut [19] (fun v19 wc => ∃ (kq : Nat) (x19_3 : Bool), v19 = .bool x19_3 ∧ Aside0 (gradineref30_Needs.j0 kq a0 a1 a2 x19_3 = some r) ∧ Aside0 (kq ≤ k) ∧ Drawn0 w wc)
 case first =>
  have H := HC4.out
  clear HC4
  by_cases c5 : a2 < 0
  ·rw [if_pos c5] at H
   have zd : decide (a2 < 0) = true := decide_eq_true c5
   clear c5
   (first | rw [zd] | (simp only [i64_w, i32_w]; rw [zd]) | skip)
   have H' := aM H
   clear H
   go_wp2
   go_meet
   case rel => exact ⟨_, (true), (pF), H', ⟨by first | omega | exact Nat.le_refl _⟩, by repeat (first | exact Drawn0.refl _ | apply Drawn0.step)⟩
  rw [if_neg c5] at H
  have zd : decide (a2 < 0) = false := decide_eq_false c5
  clear c5
  (first | rw [zd] | (simp only [i64_w, i32_w]; rw [zd]) | skip)
  replace H := Option.bind_eq_some_iff.mp H
  obtain ⟨zb, A60, H⟩ := H
  try dsimp only at H
  have A6 := aM A60
  clear A60
  by_cases c7 : a2 > zb
  ·rw [if_pos c7] at H
   have c7b0 : decide (zb < a2) = true := decide_eq_true c7
   clear c7
   have H' := aM H
   clear H
   go_wp2_with (first | (go_at_call 13; (with_reducible refine (gradineref30_Arity.calls k a0 zb _ A6.out).mono ?_); rintro e w' ⟨rfl, ⟨nd, rfl⟩⟩))
   go_meet
   case rel => exact ⟨_, (true), (pF), H', ⟨by first | omega | exact Nat.le_refl _⟩, by repeat (first | exact Drawn0.refl _ | apply Drawn0.step)⟩
  rw [if_neg c7] at H
  have c7b0 : decide (zb < a2) = false := decide_eq_false c7
  clear c7
  replace H := Option.bind_eq_some_iff.mp H
  obtain ⟨zc, A80, H⟩ := H
  try dsimp only at H
  have A8 := aM A80
  clear A80
  have hz_ := aM (Option.some.inj (A6.out.symm.trans A8.out))
  have H' := aM H
  clear H
  go_wp2_with (first | (go_at_call 13; (with_reducible refine (gradineref30_Arity.calls k a0 zb _ A6.out).mono ?_); rintro e w' ⟨rfl, ⟨nd, rfl⟩⟩) | (go_at_call 13; (with_reducible refine (gradineref30_Arity.calls k a0 zc _ A8.out).mono ?_); rintro e w' ⟨rfl, ⟨nd, rfl⟩⟩))
  go_meet
  case rel => exact ⟨_, ((zc == 0)), (by first | (rw [hz_.out]; done) | exact pF), H', ⟨by first | omega | exact Nat.le_refl _⟩, by repeat (first | exact Drawn0.refl _ | apply Drawn0.step)⟩
 case rest =>
  clear HC4
  obtain ⟨kq, x19_3, rfl, HA, HJ3, ⟨mc3, rfl⟩⟩ := hcut
  cases kq with
  | zero => exact absurd HA.out (by simp [gradineref30_Needs.j0])
  | succ kj3 =>
   have H := HA.out
   clear HA
   simp only [gradineref30_Needs.j0] at H
   by_cases c9 : x19_3 = true
   ·subst c9
    rw [if_pos rfl] at H
    obtain rfl := Option.some.inj H
    go_wp2
    go_ret
    exact ⟨pF, by repeat (first | exact Drawn0.refl _ | apply Drawn0.step)⟩
   replace c9 := Bool.eq_false_iff.mpr c9
   subst c9
   rw [if_neg (show ¬ (false = true) by decide)] at H
   replace H := Option.bind_eq_some_iff.mp H
   obtain ⟨za, ze, H⟩ := H
   try dsimp only at H
   have A10 := aM ze
   clear ze
   by_cases c11 : a2 = za
   ·rw [if_pos c11] at H
    have c11b0 : (a2 == za) = true := beq_iff_eq.mpr c11
    have c11b1 : (a2 != za) = false := bne_eq_false_iff_eq.mpr c11
    clear c11
    by_cases c12 : a0 = 2
    ·rw [if_pos c12] at H
     have c12b0 : (a0 == 2) = true := beq_iff_eq.mpr c12
     have c12b1 : (a0 != 2) = false := bne_eq_false_iff_eq.mpr c12
     clear c12
     obtain rfl := Option.some.inj H
     go_wp2_with (first | ((with_reducible refine gate_callee (f := 13) rfl ?_); refine goesL_ (some 22) rfl rfl Tryd.func13 (by kernel_rfl) rfl #[.int .i64 a0] rfl pA ?_; (with_reducible refine (gradineref30_Arity.calls kj3 a0 za _ A10.out).mono ?_); rintro e w' ⟨rfl, ⟨nd, rfl⟩⟩; refine ⟨_, rfl, ?_⟩))
     go_ret
     exact ⟨pF, by repeat (first | exact Drawn0.refl _ | apply Drawn0.step)⟩
    rw [if_neg c12] at H
    have c12b0 : (a0 == 2) = false := beq_eq_false_iff_ne.mpr c12
    have c12b1 : (a0 != 2) = true := bne_iff_ne.mpr c12
    by_cases c13 : a0 ≥ 9
    rotate_left
    ·rw [if_neg c13] at H
     have c13b0 : decide (9 ≤ a0) = false := decide_eq_false c13
     clear c13
     by_cases c16 : a0 = 7
     rotate_left
     ·rw [if_neg c16] at H
      have c16b0 : (a0 == 7) = false := beq_eq_false_iff_ne.mpr c16
      have c16b1 : (a0 != 7) = true := bne_iff_ne.mpr c16
      obtain rfl := Option.some.inj H
      go_wp2_with (first | ((with_reducible refine gate_callee (f := 13) rfl ?_); refine goesL_ (some 22) rfl rfl Tryd.func13 (by kernel_rfl) rfl #[.int .i64 a0] rfl pA ?_; (with_reducible refine (gradineref30_Arity.calls kj3 a0 za _ A10.out).mono ?_); rintro e w' ⟨rfl, ⟨nd, rfl⟩⟩; refine ⟨_, rfl, ?_⟩))
      go_ret
      exact ⟨pF, by repeat (first | exact Drawn0.refl _ | apply Drawn0.step)⟩
     rw [if_pos c16] at H
     have c16b0 : (a0 == 7) = true := beq_iff_eq.mpr c16
     have c16b1 : (a0 != 7) = false := bne_eq_false_iff_eq.mpr c16
     clear c16
     obtain rfl := Option.some.inj H
     go_wp2_with (first | ((with_reducible refine gate_callee (f := 13) rfl ?_); refine goesL_ (some 22) rfl rfl Tryd.func13 (by kernel_rfl) rfl #[.int .i64 a0] rfl pA ?_; (with_reducible refine (gradineref30_Arity.calls kj3 a0 za _ A10.out).mono ?_); rintro e w' ⟨rfl, ⟨nd, rfl⟩⟩; refine ⟨_, rfl, ?_⟩))
     go_ret
     exact ⟨pF, by repeat (first | exact Drawn0.refl _ | apply Drawn0.step)⟩
    rw [if_pos c13] at H
    have c13b0 : decide (9 ≤ a0) = true := decide_eq_true c13
    clear c13
    by_cases c14 : a0 ≤ 11
    ·rw [if_pos c14] at H
     have c14b0 : decide (a0 ≤ 11) = true := decide_eq_true c14
     clear c14
     obtain rfl := Option.some.inj H
     go_wp2_with (first | ((with_reducible refine gate_callee (f := 13) rfl ?_); refine goesL_ (some 22) rfl rfl Tryd.func13 (by kernel_rfl) rfl #[.int .i64 a0] rfl pA ?_; (with_reducible refine (gradineref30_Arity.calls kj3 a0 za _ A10.out).mono ?_); rintro e w' ⟨rfl, ⟨nd, rfl⟩⟩; refine ⟨_, rfl, ?_⟩))
     go_ret
     exact ⟨pF, by repeat (first | exact Drawn0.refl _ | apply Drawn0.step)⟩
    rw [if_neg c14] at H
    have c14b0 : decide (a0 ≤ 11) = false := decide_eq_false c14
    clear c14
    by_cases c15 : a0 = 7
    rotate_left
    ·rw [if_neg c15] at H
     have c15b0 : (a0 == 7) = false := beq_eq_false_iff_ne.mpr c15
     have c15b1 : (a0 != 7) = true := bne_iff_ne.mpr c15
     obtain rfl := Option.some.inj H
     go_wp2_with (first | ((with_reducible refine gate_callee (f := 13) rfl ?_); refine goesL_ (some 22) rfl rfl Tryd.func13 (by kernel_rfl) rfl #[.int .i64 a0] rfl pA ?_; (with_reducible refine (gradineref30_Arity.calls kj3 a0 za _ A10.out).mono ?_); rintro e w' ⟨rfl, ⟨nd, rfl⟩⟩; refine ⟨_, rfl, ?_⟩))
     go_ret
     exact ⟨pF, by repeat (first | exact Drawn0.refl _ | apply Drawn0.step)⟩
    rw [if_pos c15] at H
    have c15b0 : (a0 == 7) = true := beq_iff_eq.mpr c15
    have c15b1 : (a0 != 7) = false := bne_eq_false_iff_eq.mpr c15
    clear c15
    obtain rfl := Option.some.inj H
    go_wp2_with (first | ((with_reducible refine gate_callee (f := 13) rfl ?_); refine goesL_ (some 22) rfl rfl Tryd.func13 (by kernel_rfl) rfl #[.int .i64 a0] rfl pA ?_; (with_reducible refine (gradineref30_Arity.calls kj3 a0 za _ A10.out).mono ?_); rintro e w' ⟨rfl, ⟨nd, rfl⟩⟩; refine ⟨_, rfl, ?_⟩))
    go_ret
    exact ⟨pF, by repeat (first | exact Drawn0.refl _ | apply Drawn0.step)⟩
   rw [if_neg c11] at H
   have c11b0 : (a2 == za) = false := beq_eq_false_iff_ne.mpr c11
   have c11b1 : (a2 != za) = true := bne_iff_ne.mpr c11
   by_cases c17 : a0 = 12
   ·rw [if_pos c17] at H
    have c17b0 : (a0 == 12) = true := beq_iff_eq.mpr c17
    have c17b1 : (a0 != 12) = false := bne_eq_false_iff_eq.mpr c17
    clear c17
    by_cases c18 : a1 = 0
    rotate_left
    ·rw [if_neg c18] at H
     have c18b0 : (a1 == 0) = false := beq_eq_false_iff_ne.mpr c18
     have c18b1 : (a1 != 0) = true := bne_iff_ne.mpr c18
     obtain rfl := Option.some.inj H
     go_wp2_with (first | ((with_reducible refine gate_callee (f := 13) rfl ?_); refine goesL_ (some 22) rfl rfl Tryd.func13 (by kernel_rfl) rfl #[.int .i64 a0] rfl pA ?_; (with_reducible refine (gradineref30_Arity.calls kj3 a0 za _ A10.out).mono ?_); rintro e w' ⟨rfl, ⟨nd, rfl⟩⟩; refine ⟨_, rfl, ?_⟩))
     go_ret
     exact ⟨pF, by repeat (first | exact Drawn0.refl _ | apply Drawn0.step)⟩
    rw [if_pos c18] at H
    have c18b0 : (a1 == 0) = true := beq_iff_eq.mpr c18
    have c18b1 : (a1 != 0) = false := bne_eq_false_iff_eq.mpr c18
    clear c18
    obtain rfl := Option.some.inj H
    go_wp2_with (first | ((with_reducible refine gate_callee (f := 13) rfl ?_); refine goesL_ (some 22) rfl rfl Tryd.func13 (by kernel_rfl) rfl #[.int .i64 a0] rfl pA ?_; (with_reducible refine (gradineref30_Arity.calls kj3 a0 za _ A10.out).mono ?_); rintro e w' ⟨rfl, ⟨nd, rfl⟩⟩; refine ⟨_, rfl, ?_⟩))
    go_ret
    exact ⟨pF, by repeat (first | exact Drawn0.refl _ | apply Drawn0.step)⟩
   rw [if_neg c17] at H
   have c17b0 : (a0 == 12) = false := beq_eq_false_iff_ne.mpr c17
   have c17b1 : (a0 != 12) = true := bne_iff_ne.mpr c17
   by_cases c19 : a0 = 20
   ·rw [if_pos c19] at H
    have c19b0 : (a0 == 20) = true := beq_iff_eq.mpr c19
    have c19b1 : (a0 != 20) = false := bne_eq_false_iff_eq.mpr c19
    clear c19
    obtain rfl := Option.some.inj H
    go_wp2_with (first | ((with_reducible refine gate_callee (f := 13) rfl ?_); refine goesL_ (some 22) rfl rfl Tryd.func13 (by kernel_rfl) rfl #[.int .i64 a0] rfl pA ?_; (with_reducible refine (gradineref30_Arity.calls kj3 a0 za _ A10.out).mono ?_); rintro e w' ⟨rfl, ⟨nd, rfl⟩⟩; refine ⟨_, rfl, ?_⟩))
    go_ret
    exact ⟨pF, by repeat (first | exact Drawn0.refl _ | apply Drawn0.step)⟩
   rw [if_neg c19] at H
   have c19b0 : (a0 == 20) = false := beq_eq_false_iff_ne.mpr c19
   have c19b1 : (a0 != 20) = true := bne_iff_ne.mpr c19
   by_cases c20 : a0 = 25
   ·rw [if_pos c20] at H
    have c20b0 : (a0 == 25) = true := beq_iff_eq.mpr c20
    have c20b1 : (a0 != 25) = false := bne_eq_false_iff_eq.mpr c20
    clear c20
    obtain rfl := Option.some.inj H
    go_wp2_with (first | ((with_reducible refine gate_callee (f := 13) rfl ?_); refine goesL_ (some 22) rfl rfl Tryd.func13 (by kernel_rfl) rfl #[.int .i64 a0] rfl pA ?_; (with_reducible refine (gradineref30_Arity.calls kj3 a0 za _ A10.out).mono ?_); rintro e w' ⟨rfl, ⟨nd, rfl⟩⟩; refine ⟨_, rfl, ?_⟩))
    go_ret
    exact ⟨pF, by repeat (first | exact Drawn0.refl _ | apply Drawn0.step)⟩
   rw [if_neg c20] at H
   have c20b0 : (a0 == 25) = false := beq_eq_false_iff_ne.mpr c20
   have c20b1 : (a0 != 25) = true := bne_iff_ne.mpr c20
   by_cases c21 : a0 = 3
   ·rw [if_pos c21] at H
    have c21b0 : (a0 == 3) = true := beq_iff_eq.mpr c21
    have c21b1 : (a0 != 3) = false := bne_eq_false_iff_eq.mpr c21
    clear c21
    obtain rfl := Option.some.inj H
    go_wp2_with (first | ((with_reducible refine gate_callee (f := 13) rfl ?_); refine goesL_ (some 22) rfl rfl Tryd.func13 (by kernel_rfl) rfl #[.int .i64 a0] rfl pA ?_; (with_reducible refine (gradineref30_Arity.calls kj3 a0 za _ A10.out).mono ?_); rintro e w' ⟨rfl, ⟨nd, rfl⟩⟩; refine ⟨_, rfl, ?_⟩))
    go_ret
    exact ⟨pF, by repeat (first | exact Drawn0.refl _ | apply Drawn0.step)⟩
   rw [if_neg c21] at H
   have c21b0 : (a0 == 3) = false := beq_eq_false_iff_ne.mpr c21
   have c21b1 : (a0 != 3) = true := bne_iff_ne.mpr c21
   by_cases c22 : a0 = 8
   ·rw [if_pos c22] at H
    have c22b0 : (a0 == 8) = true := beq_iff_eq.mpr c22
    have c22b1 : (a0 != 8) = false := bne_eq_false_iff_eq.mpr c22
    clear c22
    obtain rfl := Option.some.inj H
    go_wp2_with (first | ((with_reducible refine gate_callee (f := 13) rfl ?_); refine goesL_ (some 22) rfl rfl Tryd.func13 (by kernel_rfl) rfl #[.int .i64 a0] rfl pA ?_; (with_reducible refine (gradineref30_Arity.calls kj3 a0 za _ A10.out).mono ?_); rintro e w' ⟨rfl, ⟨nd, rfl⟩⟩; refine ⟨_, rfl, ?_⟩))
    go_ret
    exact ⟨pF, by repeat (first | exact Drawn0.refl _ | apply Drawn0.step)⟩
   rw [if_neg c22] at H
   have c22b0 : (a0 == 8) = false := beq_eq_false_iff_ne.mpr c22
   have c22b1 : (a0 != 8) = true := bne_iff_ne.mpr c22
   by_cases c23 : a0 = 19
   ·rw [if_pos c23] at H
    have c23b0 : (a0 == 19) = true := beq_iff_eq.mpr c23
    have c23b1 : (a0 != 19) = false := bne_eq_false_iff_eq.mpr c23
    clear c23
    obtain rfl := Option.some.inj H
    go_wp2_with (first | ((with_reducible refine gate_callee (f := 13) rfl ?_); refine goesL_ (some 22) rfl rfl Tryd.func13 (by kernel_rfl) rfl #[.int .i64 a0] rfl pA ?_; (with_reducible refine (gradineref30_Arity.calls kj3 a0 za _ A10.out).mono ?_); rintro e w' ⟨rfl, ⟨nd, rfl⟩⟩; refine ⟨_, rfl, ?_⟩))
    go_ret
    exact ⟨pF, by repeat (first | exact Drawn0.refl _ | apply Drawn0.step)⟩
   rw [if_neg c23] at H
   have c23b0 : (a0 == 19) = false := beq_eq_false_iff_ne.mpr c23
   have c23b1 : (a0 != 19) = true := bne_iff_ne.mpr c23
   by_cases c24 : a0 = 26
   ·rw [if_pos c24] at H
    have c24b0 : (a0 == 26) = true := beq_iff_eq.mpr c24
    have c24b1 : (a0 != 26) = false := bne_eq_false_iff_eq.mpr c24
    clear c24
    obtain rfl := Option.some.inj H
    go_wp2_with (first | ((with_reducible refine gate_callee (f := 13) rfl ?_); refine goesL_ (some 22) rfl rfl Tryd.func13 (by kernel_rfl) rfl #[.int .i64 a0] rfl pA ?_; (with_reducible refine (gradineref30_Arity.calls kj3 a0 za _ A10.out).mono ?_); rintro e w' ⟨rfl, ⟨nd, rfl⟩⟩; refine ⟨_, rfl, ?_⟩))
    go_ret
    exact ⟨pF, by repeat (first | exact Drawn0.refl _ | apply Drawn0.step)⟩
   rw [if_neg c24] at H
   have c24b0 : (a0 == 26) = false := beq_eq_false_iff_ne.mpr c24
   have c24b1 : (a0 != 26) = true := bne_iff_ne.mpr c24
   obtain rfl := Option.some.inj H
   go_wp2_with (first | ((with_reducible refine gate_callee (f := 13) rfl ?_); refine goesL_ (some 22) rfl rfl Tryd.func13 (by kernel_rfl) rfl #[.int .i64 a0] rfl pA ?_; (with_reducible refine (gradineref30_Arity.calls kj3 a0 za _ A10.out).mono ?_); rintro e w' ⟨rfl, ⟨nd, rfl⟩⟩; refine ⟨_, rfl, ?_⟩))
   go_ret
   exact ⟨pF, by repeat (first | exact Drawn0.refl _ | apply Drawn0.step)⟩

end Go.Proofs.YthoilhonhjemmaaDoor.Q
