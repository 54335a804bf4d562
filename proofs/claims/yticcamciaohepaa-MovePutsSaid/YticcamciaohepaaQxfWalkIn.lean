-- By wip/gprint.py (this session's), out of the kit's print.py.
import Derived.Test.YticcamciaohepaaQx0
import Derived.Test.YticcamciaohepaaQxfShapeCheck
namespace Go.Proofs.Yticcamciaohepaa.Q
open Go.RowKit Go.Proofs.YticcamciaohepaaW.PrintWords Go.Proofs.YticcamciaohepaaW.PrintLast Go.Proofs.YticcamciaohepaaW.PrintMore
attribute [local go_sem] max2_int min2_int max_two min_two max_three min_three max_four min_four   -- for this text's walks alone
set_option linter.unusedVariables false
set_option linter.unusedSimpArgs false

/-! ### walk_in: function 35 -/
mutual
def walk_in.j0 : Nat → List Int → List Int → Bool → Option (Bool)
 | 0, _, _, _ => none
 | k + 1, x0, x1, x16 => if x16 = true then (some false) else (walk_in.l0 k x0 x1 (x1.length : Int) 0)
def walk_in.l0 : Nat → List Int → List Int → Int → Int → Option (Bool)
 | 0, _, _, _, _ => none
 | k + 1, x0, x17, x18, x19 => if x19 < x18 then (if 0 ≤ x19 then (if x19 < (x17.length : Int) then (if (rd x17 x19) < 0 then (some false) else (if x19 < (x0.length : Int) then (if (rd x17 x19) ≥ (rd x0 x19) then (some false) else (walk_in.l0 k x0 x17 x18 (wrap64 (x19 + 1)))) else (none))) else (none)) else (none)) else (some true)
end
def walk_in.f (k : Nat) (l0 : List Int) (l1 : List Int) : Option (Bool) := (shape_Check.f l0).bind fun za => (if za = 0 then (walk_in.j0 k l0 l1 ((l1.length : Int) != (l0.length : Int))) else (walk_in.j0 k l0 l1 true))
set_option maxHeartbeats 8000000 in
set_option maxRecDepth 100000 in
theorem walk_in.calls (k : Nat) (A0 : Option Addr) (c0 : Nat) (l0 : List Int) (A1 : Option Addr) (c1 : Nat) (l1 : List Int) (r : Bool) (w : World) (hr0 : Kd.C (Kd.int .i64) w A0 l0.length l0) (hc0 : l0.length ≤ c0) (hr1 : Kd.C (Kd.int .i64) w A1 l1.length l1) (hc1 : l1.length ≤ c1) (h : walk_in.f k l0 l1 = some r) :
  Calls Try.prog 35 #[.slice A0 l0.length c0, .slice A1 l1.length c1] w fun e w' => e = .returned (.bool r) ∧ Drawn0 w w' := by
 have HR0 := aM hr0
 have HC0 := aM hc0
 clear hr0 hc0
 have HR1 := aM hr1
 have HC1 := aM hc1
 clear hr1 hc1
 have H : ((shape_Check.f l0).bind fun za => (if za = 0 then (walk_in.j0 k l0 l1 ((l1.length : Int) != (l0.length : Int))) else (walk_in.j0 k l0 l1 true))) = some r := h
 clear h
 have HC3 := aM H
 clear H
 go_enter Try.func35, Try.ntmps35
 go_upto_region 1 with (fail)
 go_cut [16] (fun v16 wc => ∃ (kq : Nat) (x16_2 : Bool), v16 = .bool x16_2 ∧ Aside0 (walk_in.j0 kq l0 l1 x16_2 = some r) ∧ Aside0 (kq ≤ k) ∧ Drawn0 w wc)
 case first =>
  have H := HC3.out
  clear HC3
  replace H := Option.bind_eq_some_iff.mp H
  obtain ⟨za, A40, H⟩ := H
  try dsimp only at H
  have A4 := aM A40
  clear A40
  by_cases c5 : za = 0
  rotate_left
  ·rw [if_neg c5] at H
   have zb : (za == 0) = false := beq_eq_false_iff_ne.mpr c5
   have c5b1 : (za != 0) = true := bne_iff_ne.mpr c5
   (first | rw [zb] | (simp only [i64_w, i32_w]; rw [zb]) | skip)
   have H' := aM H
   clear H
   go_wp2_with (first | ((with_reducible refine gate_callee (f := 22) rfl ?_); refine goesL_ (some 8) rfl rfl Try.func22 (by kernel_rfl) rfl #[.slice A0 l0.length c0] rfl pA ?_; (with_reducible refine (shape_Check.calls _ _ l0 za _ ?s1 ?s2 A4.out).mono ?_); (case s1 => exact pC HR0.out); (case s2 => exact HC0.out); rintro e w' ⟨rfl, ⟨nd, rfl⟩⟩; refine ⟨_, rfl, ?_⟩))
   go_meet
   case rel => exact ⟨_, (true), (pF), H', ⟨by first | omega | exact Nat.le_refl _⟩, by repeat (first | exact Drawn0.refl _ | apply Drawn0.step)⟩
  rw [if_pos c5] at H
  have zb : (za == 0) = true := beq_iff_eq.mpr c5
  have c5b1 : (za != 0) = false := bne_eq_false_iff_eq.mpr c5
  clear c5
  (first | rw [zb] | (simp only [i64_w, i32_w]; rw [zb]) | skip)
  have H' := aM H
  clear H
  go_wp2_with (first | ((with_reducible refine gate_callee (f := 22) rfl ?_); refine goesL_ (some 8) rfl rfl Try.func22 (by kernel_rfl) rfl #[.slice A0 l0.length c0] rfl pA ?_; (with_reducible refine (shape_Check.calls _ _ l0 za _ ?s1 ?s2 A4.out).mono ?_); (case s1 => exact pC HR0.out); (case s2 => exact HC0.out); rintro e w' ⟨rfl, ⟨nd, rfl⟩⟩; refine ⟨_, rfl, ?_⟩))
  go_meet
  case rel => exact ⟨_, (((l1.length : Int) != (l0.length : Int))), (pF), H', ⟨by first | omega | exact Nat.le_refl _⟩, by repeat (first | exact Drawn0.refl _ | apply Drawn0.step)⟩
 case rest =>
  clear HC3
  try clear c1
  obtain ⟨kq, x16_2, rfl, HA, HJ2, ⟨mc2, rfl⟩⟩ := hcut
  cases kq with
  | zero => exact absurd HA.out (by simp [walk_in.j0])
  | succ kj2 =>
   have H := HA.out
   clear HA
   simp only [walk_in.j0] at H
   by_cases c6 : x16_2 = true
   ·subst c6
    rw [if_pos rfl] at H
    obtain rfl := Option.some.inj H
    go_wp2
    go_ret
    exact ⟨pF, by repeat (first | exact Drawn0.refl _ | apply Drawn0.step)⟩
   replace c6 := Bool.eq_false_iff.mpr c6
   subst c6
   rw [if_neg (show ¬ (false = true) by decide)] at H
   have H' := aM H
   clear H
   go_wp2
   go_loopg [19] kj2 (fun kq v19 w' => ∃ (x19_2 : Int), v19 = .int .i64 x19_2 ∧ Aside0 (walk_in.l0 kq l0 l1 (l1.length : Int) x19_2 = some r) ∧ Aside0 (kq ≤ kj2) ∧ Drawn0 w w')
   case atStart => exact ⟨(0), (pF), H', ⟨Nat.le_refl _⟩, by repeat (first | exact Drawn0.refl _ | apply Drawn0.step)⟩
   case round =>
    clear H'
    try clear c6
    obtain ⟨x19_2, rfl, HA, HK2, ⟨m2, rfl⟩⟩ := hrel
    cases gk with
    | zero => exact absurd HA.out (by simp [walk_in.l0])
    | succ k2 =>
     have H := HA.out
     clear HA
     simp only [walk_in.l0] at H
     by_cases c7 : x19_2 < (l1.length : Int)
     rotate_left
     ·rw [if_neg c7] at H
      have c7b0 : decide (x19_2 < (l1.length : Int)) = false := decide_eq_false c7
      clear c7
      obtain rfl := Option.some.inj H
      go_wp2
      go_ret
      exact ⟨pF, by repeat (first | exact Drawn0.refl _ | apply Drawn0.step)⟩

     rw [if_pos c7] at H
     have c7b0 : decide (x19_2 < (l1.length : Int)) = true := decide_eq_true c7
     clear c7
     by_cases c8 : 0 ≤ x19_2
     rotate_left
     ·rw [if_neg c8] at H
      exact absurd H (by simp)
     rw [if_pos c8] at H
     have c8b0 : decide (0 ≤ x19_2) = true := decide_eq_true c8
     clear c8
     by_cases c9 : x19_2 < (l1.length : Int)
     rotate_left
     ·rw [if_neg c9] at H
      exact absurd H (by simp)
     rw [if_pos c9] at H
     have c9b0 : decide (x19_2 < (l1.length : Int)) = true := decide_eq_true c9
     clear c9
     by_cases c10 : (rd l1 x19_2) < 0
     ·rw [if_pos c10] at H
      have c10b0 : decide ((rd l1 x19_2) < 0) = true := decide_eq_true c10
      clear c10
      obtain rfl := Option.some.inj H
      have p371 : 0 ≤ (x19_2 : Int) := of_decide_eq_true pD
      have q371 : x19_2 < (l1.length : Int) := of_decide_eq_true pD
      obtain ⟨ad371, e371, hx371_0⟩ := Kd.at_int HR1.out x19_2 p371 q371
      cases e371
      replace p371 := eq_true p371
      replace q371 := eq_true q371
      go_wp2
      go_ret
      exact ⟨pF, by repeat (first | exact Drawn0.refl _ | apply Drawn0.step)⟩
     rw [if_neg c10] at H
     have c10b0 : decide ((rd l1 x19_2) < 0) = false := decide_eq_false c10
     clear c10
     by_cases c11 : x19_2 < (l0.length : Int)
     rotate_left
     ·rw [if_neg c11] at H
      exact absurd H (by simp)
     rw [if_pos c11] at H
     have c11b0 : decide (x19_2 < (l0.length : Int)) = true := decide_eq_true c11
     clear c11
     by_cases c12 : (rd l1 x19_2) ≥ (rd l0 x19_2)
     ·rw [if_pos c12] at H
      have c12b0 : decide ((rd l0 x19_2) ≤ (rd l1 x19_2)) = true := decide_eq_true c12
      clear c12
      obtain rfl := Option.some.inj H
      have p371 : 0 ≤ (x19_2 : Int) := of_decide_eq_true pD
      have q371 : x19_2 < (l1.length : Int) := of_decide_eq_true pD
      obtain ⟨ad371, e371, hx371_0⟩ := Kd.at_int HR1.out x19_2 p371 q371
      cases e371
      replace p371 := eq_true p371
      replace q371 := eq_true q371
      have p372 : 0 ≤ (x19_2 : Int) := of_decide_eq_true pD
      have q372 : x19_2 < (l0.length : Int) := of_decide_eq_true pD
      obtain ⟨ad372, e372, hx372_0⟩ := Kd.at_int HR0.out x19_2 p372 q372
      cases e372
      replace p372 := eq_true p372
      replace q372 := eq_true q372
      go_wp2
      go_ret
      exact ⟨pF, by repeat (first | exact Drawn0.refl _ | apply Drawn0.step)⟩
     rw [if_neg c12] at H
     have c12b0 : decide ((rd l0 x19_2) ≤ (rd l1 x19_2)) = false := decide_eq_false c12
     clear c12
     have H' := aM H
     clear H
     have p371 : 0 ≤ (x19_2 : Int) := of_decide_eq_true pD
     have q371 : x19_2 < (l1.length : Int) := of_decide_eq_true pD
     obtain ⟨ad371, e371, hx371_0⟩ := Kd.at_int HR1.out x19_2 p371 q371
     cases e371
     replace p371 := eq_true p371
     replace q371 := eq_true q371
     have p372 : 0 ≤ (x19_2 : Int) := of_decide_eq_true pD
     have q372 : x19_2 < (l0.length : Int) := of_decide_eq_true pD
     obtain ⟨ad372, e372, hx372_0⟩ := Kd.at_int HR0.out x19_2 p372 q372
     cases e372
     replace p372 := eq_true p372
     replace q372 := eq_true q372
     go_wp2
     go_roundg k2
     case measure => have := HJ2.out; have := HK2.out; omega
     case rel => exact ⟨(wrap64 (x19_2 + 1)), (pF), H', ⟨by have := HJ2.out; have := HK2.out; omega⟩, by repeat (first | exact Drawn0.refl _ | apply Drawn0.step)⟩
end Go.Proofs.Yticcamciaohepaa.Q
