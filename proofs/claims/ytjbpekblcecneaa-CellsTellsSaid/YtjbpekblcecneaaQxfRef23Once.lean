-- By wip/gprint.py (this session's), out of the kit's print.py.
import Derived.Test.YtjbpekblcecneaaQx0
import Derived.Test.YtjbpekblcecneaaQxfRef19Has
namespace Go.Proofs.Ytjbpekblcecneaa.Q
open Go.RowKit Go.Proofs.YtjbpekblcecneaaW.PrintWords Go.Proofs.YtjbpekblcecneaaW.PrintLast Go.Proofs.YtjbpekblcecneaaW.PrintMore
attribute [local go_sem] max2_int min2_int max_two min_two max_three min_three max_four min_four   -- for this text's walks alone
set_option linter.unusedVariables false
set_option linter.unusedSimpArgs false

/-! ### gradineref23_Once: function 31 -/
def gradineref23_Once.l0 : Nat → List Int → Int → Int → Option (Bool)
 | 0, _, _, _ => none
 | k + 1, x0, x5, x6 => if x6 < x5 then (if 0 ≤ x6 then (if x6 ≤ (x0.length : Int) then (if x6 < (x0.length : Int) then ((gradineref19_Has.f k (x0.take (x6 : Int).toNat) (rd x0 x6)).bind fun za => (if za = true then (some false) else (gradineref23_Once.l0 k x0 x5 (wrap64 (x6 + 1))))) else (none)) else (none)) else (none)) else (some (decide ((x0.length : Int) > 0)))
def gradineref23_Once.f (k : Nat) (l0 : List Int) : Option (Bool) := gradineref23_Once.l0 k l0 (l0.length : Int) 0
set_option maxHeartbeats 8000000 in
set_option maxRecDepth 100000 in
theorem gradineref23_Once.calls (k : Nat) (A0 : Option Addr) (c0 : Nat) (l0 : List Int) (r : Bool) (w : World) (hr0 : Kd.C (Kd.int .i64) w A0 l0.length l0) (hc0 : l0.length ≤ c0) (h : gradineref23_Once.f k l0 = some r) :
  Calls Try.prog 31 #[.slice A0 l0.length c0] w fun e w' => e = .returned (.bool r) ∧ Drawn0 w w' := by
 have HR0 := aM hr0
 have HC0 := aM hc0
 clear hr0 hc0
 have H : (gradineref23_Once.l0 k l0 (l0.length : Int) 0) = some r := h
 clear h
 have H' := aM H
 clear H
 go_enter Try.func31, Try.ntmps31
 go_wp2
 repeat (go_quiet (fail); try go_wp2)
 go_loopg [6] k (fun kq v6 w' => ∃ (x6_1 : Int), v6 = .int .i64 x6_1 ∧ Aside0 (gradineref23_Once.l0 kq l0 (l0.length : Int) x6_1 = some r) ∧ Aside0 (kq ≤ k) ∧ Drawn0 w w')
 case atStart => exact ⟨(0), (pF), H', ⟨Nat.le_refl _⟩, by repeat (first | exact Drawn0.refl _ | apply Drawn0.step)⟩
 case round =>
  clear H'
  obtain ⟨x6_1, rfl, HA, HK1, ⟨m1, rfl⟩⟩ := hrel
  cases gk with
  | zero => exact absurd HA.out (by simp [gradineref23_Once.l0])
  | succ k1 =>
   have H := HA.out
   clear HA
   simp only [gradineref23_Once.l0] at H
   by_cases c2 : x6_1 < (l0.length : Int)
   rotate_left
   ·rw [if_neg c2] at H
    have c2b0 : decide (x6_1 < (l0.length : Int)) = false := decide_eq_false c2
    clear c2
    obtain rfl := Option.some.inj H
    go_wp2
    repeat (go_quiet (fail); try go_wp2)
    go_ret
    exact ⟨pF, by repeat (first | exact Drawn0.refl _ | apply Drawn0.step)⟩

   rw [if_pos c2] at H
   have c2b0 : decide (x6_1 < (l0.length : Int)) = true := decide_eq_true c2
   clear c2
   by_cases c3 : 0 ≤ x6_1
   rotate_left
   ·rw [if_neg c3] at H
    exact absurd H (by simp)
   rw [if_pos c3] at H
   have c3b0 := eq_true c3
   have c3b1 : decide (0 ≤ x6_1) = true := decide_eq_true c3
   clear c3
   by_cases c4 : x6_1 ≤ (l0.length : Int)
   rotate_left
   ·rw [if_neg c4] at H
    exact absurd H (by simp)
   rw [if_pos c4] at H
   have c4b0 := eq_true c4
   have c4b1 : decide (x6_1 ≤ (l0.length : Int)) = true := decide_eq_true c4
   clear c4
   by_cases c5 : x6_1 < (l0.length : Int)
   rotate_left
   ·rw [if_neg c5] at H
    exact absurd H (by simp)
   rw [if_pos c5] at H
   have c5b0 : decide (x6_1 < (l0.length : Int)) = true := decide_eq_true c5
   clear c5
   replace H := Option.bind_eq_some_iff.mp H
   obtain ⟨za, A60, H⟩ := H
   try dsimp only at H
   have A6 := aM A60
   clear A60
   by_cases c7 : za = true
   ·subst c7
    rw [if_pos rfl] at H
    obtain rfl := Option.some.inj H
    obtain ⟨i08, hi08, _, hsz8, _⟩ := info_parts info3
    obtain ⟨hcut8, hA8, hC8⟩ := print_take_of (P := Try.prog) (Value.int .i64) 0 22 3 .i64 Try.underlying22 hi08 hsz8 A0 c0 l0 x6_1 (of_decide_eq_true pD) (of_decide_eq_true pD) HC0.out
    have HTK8 : Aside0 ((x6_1 : Int).toNat = (l0.take (x6_1 : Int).toNat).length) := ⟨by have h1_ : (x6_1 : Int) ≤ (l0.length : Int) := of_decide_eq_true pD; have h0_ : 0 ≤ (x6_1 : Int) := of_decide_eq_true pD; rw [List.length_take]; omega⟩
    have HR804 := aM (Kd.C_of_reads (h1 := fun _ => rfl) (hA8 _ (Kd.reads_of_C HR0.out)))
    have HC804 := aM hC8
    clear hA8 hC8 hi08 hsz8
    have p805 : 0 ≤ (x6_1 : Int) := of_decide_eq_true pD
    have q805 : x6_1 < (l0.length : Int) := of_decide_eq_true pD
    obtain ⟨ad805, e805, hx805_0⟩ := Kd.at_int HR0.out x6_1 p805 q805
    cases e805
    replace p805 := eq_true p805
    replace q805 := eq_true q805
    go_wp2_with (first | (go_at_call 55; (first | (with_reducible refine (gradineref19_Has.calls k1 _ _ (l0.take (x6_1 : Int).toNat) (rd l0 x6_1) true _ ?s1 ?s2 A6.out).mono ?_) | (rw [HTK8.out]; (with_reducible refine (gradineref19_Has.calls k1 _ _ (l0.take (x6_1 : Int).toNat) (rd l0 x6_1) true _ ?s1 ?s2 A6.out).mono ?_))); (case s1 => exact pC HR804.out); (case s2 => exact HC804.out); rintro e w' ⟨rfl, ⟨nd, rfl⟩⟩; (try first | exact ⟨rfl, _, World.drewN_drewN _ _ _⟩ | exact ⟨rfl, _, Eq.trans (World.drewN_drewN _ _ _) (congrArg (World.drewN _) (Nat.add_assoc _ _ _))⟩)))
    repeat (go_quiet (first | (go_at_call 55; (first | (with_reducible refine (gradineref19_Has.calls k1 _ _ (l0.take (x6_1 : Int).toNat) (rd l0 x6_1) true _ ?s1 ?s2 A6.out).mono ?_) | (rw [HTK8.out]; (with_reducible refine (gradineref19_Has.calls k1 _ _ (l0.take (x6_1 : Int).toNat) (rd l0 x6_1) true _ ?s1 ?s2 A6.out).mono ?_))); (case s1 => exact pC HR804.out); (case s2 => exact HC804.out); rintro e w' ⟨rfl, ⟨nd, rfl⟩⟩; (try first | exact ⟨rfl, _, World.drewN_drewN _ _ _⟩ | exact ⟨rfl, _, Eq.trans (World.drewN_drewN _ _ _) (congrArg (World.drewN _) (Nat.add_assoc _ _ _))⟩))); try go_wp2_with (first | (go_at_call 55; (first | (with_reducible refine (gradineref19_Has.calls k1 _ _ (l0.take (x6_1 : Int).toNat) (rd l0 x6_1) true _ ?s1 ?s2 A6.out).mono ?_) | (rw [HTK8.out]; (with_reducible refine (gradineref19_Has.calls k1 _ _ (l0.take (x6_1 : Int).toNat) (rd l0 x6_1) true _ ?s1 ?s2 A6.out).mono ?_))); (case s1 => exact pC HR804.out); (case s2 => exact HC804.out); rintro e w' ⟨rfl, ⟨nd, rfl⟩⟩; (try first | exact ⟨rfl, _, World.drewN_drewN _ _ _⟩ | exact ⟨rfl, _, Eq.trans (World.drewN_drewN _ _ _) (congrArg (World.drewN _) (Nat.add_assoc _ _ _))⟩))))
    go_ret
    exact ⟨pF, by repeat (first | exact Drawn0.refl _ | apply Drawn0.step)⟩
   replace c7 := Bool.eq_false_iff.mpr c7
   subst c7
   rw [if_neg (show ¬ (false = true) by decide)] at H
   have H' := aM H
   clear H
   obtain ⟨i09, hi09, _, hsz9, _⟩ := info_parts info3
   obtain ⟨hcut9, hA9, hC9⟩ := print_take_of (P := Try.prog) (Value.int .i64) 0 22 3 .i64 Try.underlying22 hi09 hsz9 A0 c0 l0 x6_1 (of_decide_eq_true pD) (of_decide_eq_true pD) HC0.out
   have HTK9 : Aside0 ((x6_1 : Int).toNat = (l0.take (x6_1 : Int).toNat).length) := ⟨by have h1_ : (x6_1 : Int) ≤ (l0.length : Int) := of_decide_eq_true pD; have h0_ : 0 ≤ (x6_1 : Int) := of_decide_eq_true pD; rw [List.length_take]; omega⟩
   have HR804 := aM (Kd.C_of_reads (h1 := fun _ => rfl) (hA9 _ (Kd.reads_of_C HR0.out)))
   have HC804 := aM hC9
   clear hA9 hC9 hi09 hsz9
   have p805 : 0 ≤ (x6_1 : Int) := of_decide_eq_true pD
   have q805 : x6_1 < (l0.length : Int) := of_decide_eq_true pD
   obtain ⟨ad805, e805, hx805_0⟩ := Kd.at_int HR0.out x6_1 p805 q805
   cases e805
   replace p805 := eq_true p805
   replace q805 := eq_true q805
   go_wp2_with (first | (go_at_call 55; (first | (with_reducible refine (gradineref19_Has.calls k1 _ _ (l0.take (x6_1 : Int).toNat) (rd l0 x6_1) false _ ?s1 ?s2 A6.out).mono ?_) | (rw [HTK9.out]; (with_reducible refine (gradineref19_Has.calls k1 _ _ (l0.take (x6_1 : Int).toNat) (rd l0 x6_1) false _ ?s1 ?s2 A6.out).mono ?_))); (case s1 => exact pC HR804.out); (case s2 => exact HC804.out); rintro e w' ⟨rfl, ⟨nd, rfl⟩⟩; (try first | exact ⟨rfl, _, World.drewN_drewN _ _ _⟩ | exact ⟨rfl, _, Eq.trans (World.drewN_drewN _ _ _) (congrArg (World.drewN _) (Nat.add_assoc _ _ _))⟩)))
   repeat (go_quiet (first | (go_at_call 55; (first | (with_reducible refine (gradineref19_Has.calls k1 _ _ (l0.take (x6_1 : Int).toNat) (rd l0 x6_1) false _ ?s1 ?s2 A6.out).mono ?_) | (rw [HTK9.out]; (with_reducible refine (gradineref19_Has.calls k1 _ _ (l0.take (x6_1 : Int).toNat) (rd l0 x6_1) false _ ?s1 ?s2 A6.out).mono ?_))); (case s1 => exact pC HR804.out); (case s2 => exact HC804.out); rintro e w' ⟨rfl, ⟨nd, rfl⟩⟩; (try first | exact ⟨rfl, _, World.drewN_drewN _ _ _⟩ | exact ⟨rfl, _, Eq.trans (World.drewN_drewN _ _ _) (congrArg (World.drewN _) (Nat.add_assoc _ _ _))⟩))); try go_wp2_with (first | (go_at_call 55; (first | (with_reducible refine (gradineref19_Has.calls k1 _ _ (l0.take (x6_1 : Int).toNat) (rd l0 x6_1) false _ ?s1 ?s2 A6.out).mono ?_) | (rw [HTK9.out]; (with_reducible refine (gradineref19_Has.calls k1 _ _ (l0.take (x6_1 : Int).toNat) (rd l0 x6_1) false _ ?s1 ?s2 A6.out).mono ?_))); (case s1 => exact pC HR804.out); (case s2 => exact HC804.out); rintro e w' ⟨rfl, ⟨nd, rfl⟩⟩; (try first | exact ⟨rfl, _, World.drewN_drewN _ _ _⟩ | exact ⟨rfl, _, Eq.trans (World.drewN_drewN _ _ _) (congrArg (World.drewN _) (Nat.add_assoc _ _ _))⟩))))
   go_roundg k1
   case measure => have := HK1.out; omega
   case rel => exact ⟨(wrap64 (x6_1 + 1)), (pF), H', ⟨by have := HK1.out; omega⟩, by repeat (first | exact Drawn0.refl _ | apply Drawn0.step)⟩
end Go.Proofs.Ytjbpekblcecneaa.Q
