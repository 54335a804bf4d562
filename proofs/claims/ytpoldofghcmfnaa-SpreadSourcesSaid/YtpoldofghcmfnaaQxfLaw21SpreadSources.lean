-- Written by this session's program wip/gprint.py, which drives the kit's print.py and puts the session's own texts in for some functions.
import Derived.Test.YtpoldofghcmfnaaQx0
import Derived.Test.YtpoldofghcmfnaaQxfLaw19Many
import Derived.Test.YtpoldofghcmfnaaQxfLaw21Same
import Derived.Test.YtpoldofghcmfnaaQxfRef21Sources
import Derived.Test.YtpoldofghcmfnaaQxfSpreadSource
namespace Go.Proofs.Ytpoldofghcmfnaa.Q
open Go.RowKit Go.Proofs.YtpoldofghcmfnaaW.PrintWords Go.Proofs.YtpoldofghcmfnaaW.PrintLast Go.Proofs.YtpoldofghcmfnaaW.PrintMore
attribute [local go_sem] max2_int min2_int max_two min_two max_three min_three max_four min_four   -- for this text's walks alone
set_option linter.unusedVariables false
set_option linter.unusedSimpArgs false

/-! ### gradinelaw21_SpreadSources: function 10 -/
def gradinelaw21_SpreadSources.f (k : Nat) (l0 : List Int) (l1 : List Int) (a2 : Int) : Option (Bool) := (gradinelaw19_Many.f l0 l1).bind fun t500 => (if t500 = true then ((gradinelaw21_same.f k).bind fun t501 => (some t501)) else ((gradineref21_Sources.f k l0 l1).bind fun t502 => ((spread_Source.f k l0 l1 a2).bind fun bt505 => (if a2 ≥ 0 then (if (bt505.2 != (decide (a2 < (t502.length : Int)))) = true then (some false) else (if bt505.2 = true then (if 0 ≤ a2 then (if a2 < (t502.length : Int) then (if bt505.1 = (rd t502 a2) then ((gradinelaw21_same.f k).bind fun t508 => (some t508)) else (some false)) else (none)) else (none)) else (if bt505.1 = 0 then ((gradinelaw21_same.f k).bind fun t509 => (some t509)) else (some false)))) else (if (bt505.2 != false) = true then (some false) else (if bt505.2 = true then (if 0 ≤ a2 then (if a2 < (t502.length : Int) then (if bt505.1 = (rd t502 a2) then ((gradinelaw21_same.f k).bind fun t511 => (some t511)) else (some false)) else (none)) else (none)) else (if bt505.1 = 0 then ((gradinelaw21_same.f k).bind fun t512 => (some t512)) else (some false))))))))
set_option maxHeartbeats 8000000 in
set_option maxRecDepth 100000 in
theorem gradinelaw21_SpreadSources.calls (k : Nat) (A0 : Option Addr) (c0 : Nat) (l0 : List Int) (A1 : Option Addr) (c1 : Nat) (l1 : List Int) (a2 : Int) (w : World) (hr0 : Kd.C (Kd.int .i64) w A0 l0.length l0) (hc0 : l0.length ≤ c0) (hr1 : Kd.C (Kd.int .i64) w A1 l1.length l1) (hc1 : l1.length ≤ c1) (h : gradinelaw21_SpreadSources.f k l0 l1 a2 = some true) :
  Calls Try.prog 10 #[.slice A0 l0.length c0, .slice A1 l1.length c1, .int .i64 a2] w fun e w' => e = .returned (.bool true) ∧ Below w.heap.size w w' := by
 have HR0 := Aside0.mk hr0
 have HC0 := Aside0.mk hc0
 clear hr0 hc0
 have HR1 := Aside0.mk hr1
 have HC1 := Aside0.mk hc1
 clear hr1 hc1
 have HB := Aside0.mk (Below.refl w.heap.size w)
 have H : ((gradinelaw19_Many.f l0 l1).bind fun t500 => (if t500 = true then ((gradinelaw21_same.f k).bind fun t501 => (some t501)) else ((gradineref21_Sources.f k l0 l1).bind fun t502 => ((spread_Source.f k l0 l1 a2).bind fun bt505 => (if a2 ≥ 0 then (if (bt505.2 != (decide (a2 < (t502.length : Int)))) = true then (some false) else (if bt505.2 = true then (if 0 ≤ a2 then (if a2 < (t502.length : Int) then (if bt505.1 = (rd t502 a2) then ((gradinelaw21_same.f k).bind fun t508 => (some t508)) else (some false)) else (none)) else (none)) else (if bt505.1 = 0 then ((gradinelaw21_same.f k).bind fun t509 => (some t509)) else (some false)))) else (if (bt505.2 != false) = true then (some false) else (if bt505.2 = true then (if 0 ≤ a2 then (if a2 < (t502.length : Int) then (if bt505.1 = (rd t502 a2) then ((gradinelaw21_same.f k).bind fun t511 => (some t511)) else (some false)) else (none)) else (none)) else (if bt505.1 = 0 then ((gradinelaw21_same.f k).bind fun t512 => (some t512)) else (some false))))))))) = some true := h
 clear h
 replace H := Option.bind_eq_some_iff.mp H
 obtain ⟨t500, A40, H⟩ := H
 replace H : (if t500 = true then ((gradinelaw21_same.f k).bind fun t501 => (some t501)) else ((gradineref21_Sources.f k l0 l1).bind fun t502 => ((spread_Source.f k l0 l1 a2).bind fun bt505 => (if a2 ≥ 0 then (if (bt505.2 != (decide (a2 < (t502.length : Int)))) = true then (some false) else (if bt505.2 = true then (if 0 ≤ a2 then (if a2 < (t502.length : Int) then (if bt505.1 = (rd t502 a2) then ((gradinelaw21_same.f k).bind fun t508 => (some t508)) else (some false)) else (none)) else (none)) else (if bt505.1 = 0 then ((gradinelaw21_same.f k).bind fun t509 => (some t509)) else (some false)))) else (if (bt505.2 != false) = true then (some false) else (if bt505.2 = true then (if 0 ≤ a2 then (if a2 < (t502.length : Int) then (if bt505.1 = (rd t502 a2) then ((gradinelaw21_same.f k).bind fun t511 => (some t511)) else (some false)) else (none)) else (none)) else (if bt505.1 = 0 then ((gradinelaw21_same.f k).bind fun t512 => (some t512)) else (some false)))))))) = some true := H
 have A4 := Aside0.mk A40
 clear A40
 by_cases c5 : t500 = true
 ·subst c5
  have H1 : ((gradinelaw21_same.f k).bind fun t501 => (some t501)) = some true := by rw [if_pos rfl] at H; exact H
  clear H
  have H := H1
  clear H1
  replace H := Option.bind_eq_some_iff.mp H
  obtain ⟨t501, A60, H⟩ := H
  replace H : (some t501) = some true := H
  have A6 := Aside0.mk A60
  clear A60
  have hv_ := Aside0.mk (Option.some.inj H)
  clear H
  go_enter Try.func10, Try.ntmps10
  go_wp2_with (first | ((with_reducible refine gate_callee (f := 13) rfl ?_); refine goesL_ (some 12) rfl rfl Try.func13 (by kernel_rfl) rfl #[.slice A0 l0.length c0, .slice A1 l1.length c1] rfl pA ?_; (with_reducible refine (gradinelaw19_Many.calls _ _ l0 _ _ l1 true _ ?side1 ?side2 ?side3 ?side4 A4.out).mono ?_); (case side1 => exact pC HR0.out); (case side2 => exact HC0.out); (case side3 => exact pC HR1.out); (case side4 => exact HC1.out); rintro e w' ⟨rfl, ⟨nd, rfl⟩⟩; refine ⟨_, rfl, ?_⟩) | ((with_reducible refine gate_callee (f := 36) rfl ?_); refine goesL_ (some 13) rfl rfl Try.func36 (by kernel_rfl) rfl #[] rfl pA ?_; (with_reducible refine (gradinelaw21_same.calls k  t501 _ A6.out).mono ?_); rintro e w7 ⟨rfl, hb⟩; refine ⟨_, rfl, ?_⟩; have n0_ := Aside0.mk (below_step (pB HB.out) hb); clear HB; have HB := n0_; clear n0_; (try clear hb); (try clear hb2); (try clear hk); (try clear hi)))
  all_goals (go_ret; replace hv_ := hv_.out; exact ⟨by first | rfl | (simp [errW_none, errW_some] <;> rfl) | (simp [*, errW_none, errW_some] <;> rfl), pB HB.out⟩)
 ·replace c5 := Bool.eq_false_iff.mpr c5
  subst c5
  have H1 : ((gradineref21_Sources.f k l0 l1).bind fun t502 => ((spread_Source.f k l0 l1 a2).bind fun bt505 => (if a2 ≥ 0 then (if (bt505.2 != (decide (a2 < (t502.length : Int)))) = true then (some false) else (if bt505.2 = true then (if 0 ≤ a2 then (if a2 < (t502.length : Int) then (if bt505.1 = (rd t502 a2) then ((gradinelaw21_same.f k).bind fun t508 => (some t508)) else (some false)) else (none)) else (none)) else (if bt505.1 = 0 then ((gradinelaw21_same.f k).bind fun t509 => (some t509)) else (some false)))) else (if (bt505.2 != false) = true then (some false) else (if bt505.2 = true then (if 0 ≤ a2 then (if a2 < (t502.length : Int) then (if bt505.1 = (rd t502 a2) then ((gradinelaw21_same.f k).bind fun t511 => (some t511)) else (some false)) else (none)) else (none)) else (if bt505.1 = 0 then ((gradinelaw21_same.f k).bind fun t512 => (some t512)) else (some false))))))) = some true := by rw [if_neg (show ¬ (false = true) by decide)] at H; exact H
  clear H
  have H := H1
  clear H1
  replace H := Option.bind_eq_some_iff.mp H
  obtain ⟨t502, A80, H⟩ := H
  replace H : ((spread_Source.f k l0 l1 a2).bind fun bt505 => (if a2 ≥ 0 then (if (bt505.2 != (decide (a2 < (t502.length : Int)))) = true then (some false) else (if bt505.2 = true then (if 0 ≤ a2 then (if a2 < (t502.length : Int) then (if bt505.1 = (rd t502 a2) then ((gradinelaw21_same.f k).bind fun t508 => (some t508)) else (some false)) else (none)) else (none)) else (if bt505.1 = 0 then ((gradinelaw21_same.f k).bind fun t509 => (some t509)) else (some false)))) else (if (bt505.2 != false) = true then (some false) else (if bt505.2 = true then (if 0 ≤ a2 then (if a2 < (t502.length : Int) then (if bt505.1 = (rd t502 a2) then ((gradinelaw21_same.f k).bind fun t511 => (some t511)) else (some false)) else (none)) else (none)) else (if bt505.1 = 0 then ((gradinelaw21_same.f k).bind fun t512 => (some t512)) else (some false)))))) = some true := H
  have A8 := Aside0.mk A80
  clear A80
  replace H := Option.bind_eq_some_iff.mp H
  obtain ⟨⟨t505, t506⟩, A90, H⟩ := H
  replace H : (if a2 ≥ 0 then (if (t506 != (decide (a2 < (t502.length : Int)))) = true then (some false) else (if t506 = true then (if 0 ≤ a2 then (if a2 < (t502.length : Int) then (if t505 = (rd t502 a2) then ((gradinelaw21_same.f k).bind fun t508 => (some t508)) else (some false)) else (none)) else (none)) else (if t505 = 0 then ((gradinelaw21_same.f k).bind fun t509 => (some t509)) else (some false)))) else (if (t506 != false) = true then (some false) else (if t506 = true then (if 0 ≤ a2 then (if a2 < (t502.length : Int) then (if t505 = (rd t502 a2) then ((gradinelaw21_same.f k).bind fun t511 => (some t511)) else (some false)) else (none)) else (none)) else (if t505 = 0 then ((gradinelaw21_same.f k).bind fun t512 => (some t512)) else (some false))))) = some true := H
  have A9 := Aside0.mk A90
  clear A90
  by_cases c10 : a2 ≥ 0
  ·rw [if_pos c10] at H
   have c10b0 : decide (0 ≤ a2) = true := decide_eq_true c10
   clear c10
   by_cases c11 : (t506 != (decide (a2 < (t502.length : Int)))) = true
   ·rw [if_pos c11] at H
    have c11b0 : (t506 != (decide (a2 < (t502.length : Int)))) = true := c11
    (try (have c11b1 : decide (t506 = (decide (a2 < (t502.length : Int)))) = false := by simpa using c11))
    (try (have c11b2 : (t506 == (decide (a2 < (t502.length : Int)))) = false := by simpa using c11))
    (try (have c11b3 : ¬ (t506 = (decide (a2 < (t502.length : Int)))) := by simpa using c11))
    clear c11
    exact absurd H (by simp)
   ·rw [if_neg c11] at H
    have c11b0 : (t506 != (decide (a2 < (t502.length : Int)))) = false := by simpa using c11
    (try (have c11b1 : decide (t506 = (decide (a2 < (t502.length : Int)))) = true := by simpa using c11))
    (try (have c11b2 : (t506 == (decide (a2 < (t502.length : Int)))) = true := by simpa using c11))
    clear c11
    by_cases c12 : t506 = true
    ·subst c12
     have H1 : (if 0 ≤ a2 then (if a2 < (t502.length : Int) then (if t505 = (rd t502 a2) then ((gradinelaw21_same.f k).bind fun t508 => (some t508)) else (some false)) else (none)) else (none)) = some true := by rw [if_pos rfl] at H; exact H
     clear H
     have H := H1
     clear H1
     by_cases c13 : 0 ≤ a2
     ·rw [if_pos c13] at H
      have c13b0 : decide (0 ≤ a2) = true := decide_eq_true c13
      clear c13
      by_cases c14 : a2 < (t502.length : Int)
      ·rw [if_pos c14] at H
       have c14b0 : decide (a2 < (t502.length : Int)) = true := decide_eq_true c14
       clear c14
       by_cases c15 : t505 = (rd t502 a2)
       ·rw [if_pos c15] at H
        have c15b0 : (t505 == (rd t502 a2)) = true := beq_iff_eq.mpr c15
        have c15b1 : (t505 != (rd t502 a2)) = false := bne_eq_false_iff_eq.mpr c15
        clear c15
        replace H := Option.bind_eq_some_iff.mp H
        obtain ⟨t508, A160, H⟩ := H
        replace H : (some t508) = some true := H
        have A16 := Aside0.mk A160
        clear A160
        have hv_ := Aside0.mk (Option.some.inj H)
        clear H
        go_enter Try.func10, Try.ntmps10
        go_wp2_with (first | ((with_reducible refine gate_callee (f := 13) rfl ?_); refine goesL_ (some 12) rfl rfl Try.func13 (by kernel_rfl) rfl #[.slice A0 l0.length c0, .slice A1 l1.length c1] rfl pA ?_; (with_reducible refine (gradinelaw19_Many.calls _ _ l0 _ _ l1 false _ ?side1 ?side2 ?side3 ?side4 A4.out).mono ?_); (case side1 => exact pC HR0.out); (case side2 => exact HC0.out); (case side3 => exact pC HR1.out); (case side4 => exact HC1.out); rintro e w' ⟨rfl, ⟨nd, rfl⟩⟩; refine ⟨_, rfl, ?_⟩) | ((with_reducible refine gate_callee (f := 41) rfl ?_); refine goesL_ (some 16) rfl rfl Try.func41 (by kernel_rfl) rfl #[.slice A0 l0.length c0, .slice A1 l1.length c1] rfl pA ?_; (with_reducible refine (gradineref21_Sources.calls k _ _ l0 _ _ l1 t502 _ ?side1 ?side2 ?side3 ?side4 A8.out).mono ?_); (case side1 => exact pC HR0.out); (case side2 => exact HC0.out); (case side3 => exact pC HR1.out); (case side4 => exact HC1.out); rintro e w17 ⟨v503, rfl, ho0, hb⟩; refine ⟨_, rfl, ?_⟩; have n0_ := Aside0.mk (Kd.R_lower ho0 (below_size (pB HB.out))); have n1_ := Aside0.mk (below_step (pB HB.out) hb); clear HB; have HO504 := n0_; have HB := n1_; clear n0_ n1_; (try clear hb); (try clear hb2); (try clear hk); (try clear hi); (try clear ho0)) | ((with_reducible refine gate_callee (f := 42) rfl ?_); refine goesL_ (some 21) rfl rfl Try.func42 (by kernel_rfl) rfl #[.slice A0 l0.length c0, .slice A1 l1.length c1, .int .i64 a2] rfl pA ?_; (with_reducible refine (spread_Source.calls k _ _ l0 _ _ l1 a2 t505 true _ ?side1 ?side2 ?side3 ?side4 A9.out).mono ?_); (case side1 => exact pC (Kd.C_below HR0.out HB.out)); (case side2 => exact HC0.out); (case side3 => exact pC (Kd.C_below HR1.out HB.out)); (case side4 => exact HC1.out); rintro e w18 ⟨rfl, hb⟩; refine ⟨_, rfl, ?_⟩; have n0_ := Aside0.mk (Kd.R_below (pR HO504.out) hb); have n1_ := Aside0.mk (below_step (pB HB.out) hb); clear HO504; clear HB; have HO504 := n0_; have HB := n1_; clear n0_ n1_; (try clear hb); (try clear hb2); (try clear hk); (try clear hi); obtain ⟨Ao19, co19, eo19⟩ := Kd.R_slice HO504.out; subst eo19; have p507 : 0 ≤ (a2 : Int) := of_decide_eq_true pD; have q507 : a2 < (t502.length : Int) := of_decide_eq_true pD; obtain ⟨ad507, e507, hx507_0⟩ := Kd.at_int (Kd.R_reads' HO504.out).2.2 a2 p507 q507; cases e507; replace p507 := eq_true p507; replace q507 := eq_true q507) | ((with_reducible refine gate_callee (f := 36) rfl ?_); refine goesL_ (some 53) rfl rfl Try.func36 (by kernel_rfl) rfl #[] rfl pA ?_; (with_reducible refine (gradinelaw21_same.calls k  t508 _ A16.out).mono ?_); rintro e w20 ⟨rfl, hb⟩; refine ⟨_, rfl, ?_⟩; have n0_ := Aside0.mk (Kd.R_below (pR HO504.out) hb); have n1_ := Aside0.mk (below_step (pB HB.out) hb); clear HO504; clear HB; have HO504 := n0_; have HB := n1_; clear n0_ n1_; (try clear hb); (try clear hb2); (try clear hk); (try clear hi)))
        all_goals (go_ret; replace hv_ := hv_.out; exact ⟨by first | rfl | (simp [errW_none, errW_some] <;> rfl) | (simp [*, errW_none, errW_some] <;> rfl), pB HB.out⟩)
       ·rw [if_neg c15] at H
        have c15b0 : (t505 == (rd t502 a2)) = false := beq_eq_false_iff_ne.mpr c15
        have c15b1 : (t505 != (rd t502 a2)) = true := bne_iff_ne.mpr c15
        exact absurd H (by simp)
      ·rw [if_neg c14] at H
       exact absurd H (by simp)
     ·rw [if_neg c13] at H
      exact absurd H (by simp)
    ·replace c12 := Bool.eq_false_iff.mpr c12
     subst c12
     have H1 : (if t505 = 0 then ((gradinelaw21_same.f k).bind fun t509 => (some t509)) else (some false)) = some true := by rw [if_neg (show ¬ (false = true) by decide)] at H; exact H
     clear H
     have H := H1
     clear H1
     by_cases c21 : t505 = 0
     ·rw [if_pos c21] at H
      have c21b0 : (t505 == 0) = true := beq_iff_eq.mpr c21
      have c21b1 : (t505 != 0) = false := bne_eq_false_iff_eq.mpr c21
      clear c21
      replace H := Option.bind_eq_some_iff.mp H
      obtain ⟨t509, A220, H⟩ := H
      replace H : (some t509) = some true := H
      have A22 := Aside0.mk A220
      clear A220
      have hv_ := Aside0.mk (Option.some.inj H)
      clear H
      go_enter Try.func10, Try.ntmps10
      go_wp2_with (first | ((with_reducible refine gate_callee (f := 13) rfl ?_); refine goesL_ (some 12) rfl rfl Try.func13 (by kernel_rfl) rfl #[.slice A0 l0.length c0, .slice A1 l1.length c1] rfl pA ?_; (with_reducible refine (gradinelaw19_Many.calls _ _ l0 _ _ l1 false _ ?side1 ?side2 ?side3 ?side4 A4.out).mono ?_); (case side1 => exact pC HR0.out); (case side2 => exact HC0.out); (case side3 => exact pC HR1.out); (case side4 => exact HC1.out); rintro e w' ⟨rfl, ⟨nd, rfl⟩⟩; refine ⟨_, rfl, ?_⟩) | ((with_reducible refine gate_callee (f := 41) rfl ?_); refine goesL_ (some 16) rfl rfl Try.func41 (by kernel_rfl) rfl #[.slice A0 l0.length c0, .slice A1 l1.length c1] rfl pA ?_; (with_reducible refine (gradineref21_Sources.calls k _ _ l0 _ _ l1 t502 _ ?side1 ?side2 ?side3 ?side4 A8.out).mono ?_); (case side1 => exact pC HR0.out); (case side2 => exact HC0.out); (case side3 => exact pC HR1.out); (case side4 => exact HC1.out); rintro e w23 ⟨v503, rfl, ho0, hb⟩; refine ⟨_, rfl, ?_⟩; have n0_ := Aside0.mk (Kd.R_lower ho0 (below_size (pB HB.out))); have n1_ := Aside0.mk (below_step (pB HB.out) hb); clear HB; have HO504 := n0_; have HB := n1_; clear n0_ n1_; (try clear hb); (try clear hb2); (try clear hk); (try clear hi); (try clear ho0)) | ((with_reducible refine gate_callee (f := 42) rfl ?_); refine goesL_ (some 21) rfl rfl Try.func42 (by kernel_rfl) rfl #[.slice A0 l0.length c0, .slice A1 l1.length c1, .int .i64 a2] rfl pA ?_; (with_reducible refine (spread_Source.calls k _ _ l0 _ _ l1 a2 t505 false _ ?side1 ?side2 ?side3 ?side4 A9.out).mono ?_); (case side1 => exact pC (Kd.C_below HR0.out HB.out)); (case side2 => exact HC0.out); (case side3 => exact pC (Kd.C_below HR1.out HB.out)); (case side4 => exact HC1.out); rintro e w24 ⟨rfl, hb⟩; refine ⟨_, rfl, ?_⟩; have n0_ := Aside0.mk (Kd.R_below (pR HO504.out) hb); have n1_ := Aside0.mk (below_step (pB HB.out) hb); clear HO504; clear HB; have HO504 := n0_; have HB := n1_; clear n0_ n1_; (try clear hb); (try clear hb2); (try clear hk); (try clear hi); obtain ⟨Ao25, co25, eo25⟩ := Kd.R_slice HO504.out; subst eo25) | ((with_reducible refine gate_callee (f := 36) rfl ?_); refine goesL_ (some 53) rfl rfl Try.func36 (by kernel_rfl) rfl #[] rfl pA ?_; (with_reducible refine (gradinelaw21_same.calls k  t509 _ A22.out).mono ?_); rintro e w26 ⟨rfl, hb⟩; refine ⟨_, rfl, ?_⟩; have n0_ := Aside0.mk (Kd.R_below (pR HO504.out) hb); have n1_ := Aside0.mk (below_step (pB HB.out) hb); clear HO504; clear HB; have HO504 := n0_; have HB := n1_; clear n0_ n1_; (try clear hb); (try clear hb2); (try clear hk); (try clear hi)))
      all_goals (go_ret; replace hv_ := hv_.out; exact ⟨by first | rfl | (simp [errW_none, errW_some] <;> rfl) | (simp [*, errW_none, errW_some] <;> rfl), pB HB.out⟩)
     ·rw [if_neg c21] at H
      have c21b0 : (t505 == 0) = false := beq_eq_false_iff_ne.mpr c21
      have c21b1 : (t505 != 0) = true := bne_iff_ne.mpr c21
      exact absurd H (by simp)
  ·rw [if_neg c10] at H
   have c10b0 : decide (0 ≤ a2) = false := decide_eq_false c10
   clear c10
   by_cases c27 : (t506 != false) = true
   ·rw [if_pos c27] at H
    have c27b0 : (t506 != false) = true := c27
    (try (have c27b1 : decide (t506 = false) = false := by simpa using c27))
    (try (have c27b2 : (t506 == false) = false := by simpa using c27))
    (try (have c27b3 : ¬ (t506 = false) := by simpa using c27))
    clear c27
    exact absurd H (by simp)
   ·rw [if_neg c27] at H
    have c27b0 : (t506 != false) = false := by simpa using c27
    (try (have c27b1 : decide (t506 = false) = true := by simpa using c27))
    (try (have c27b2 : (t506 == false) = true := by simpa using c27))
    clear c27
    by_cases c28 : t506 = true
    ·subst c28
     have H1 : (if 0 ≤ a2 then (if a2 < (t502.length : Int) then (if t505 = (rd t502 a2) then ((gradinelaw21_same.f k).bind fun t511 => (some t511)) else (some false)) else (none)) else (none)) = some true := by rw [if_pos rfl] at H; exact H
     clear H
     have H := H1
     clear H1
     by_cases c29 : 0 ≤ a2
     ·rw [if_pos c29] at H
      have c29b0 : decide (0 ≤ a2) = true := decide_eq_true c29
      clear c29
      by_cases c30 : a2 < (t502.length : Int)
      ·rw [if_pos c30] at H
       have c30b0 : decide (a2 < (t502.length : Int)) = true := decide_eq_true c30
       clear c30
       by_cases c31 : t505 = (rd t502 a2)
       ·rw [if_pos c31] at H
        have c31b0 : (t505 == (rd t502 a2)) = true := beq_iff_eq.mpr c31
        have c31b1 : (t505 != (rd t502 a2)) = false := bne_eq_false_iff_eq.mpr c31
        clear c31
        replace H := Option.bind_eq_some_iff.mp H
        obtain ⟨t511, A320, H⟩ := H
        replace H : (some t511) = some true := H
        have A32 := Aside0.mk A320
        clear A320
        have hv_ := Aside0.mk (Option.some.inj H)
        clear H
        go_enter Try.func10, Try.ntmps10
        go_wp2_with (first | ((with_reducible refine gate_callee (f := 13) rfl ?_); refine goesL_ (some 12) rfl rfl Try.func13 (by kernel_rfl) rfl #[.slice A0 l0.length c0, .slice A1 l1.length c1] rfl pA ?_; (with_reducible refine (gradinelaw19_Many.calls _ _ l0 _ _ l1 false _ ?side1 ?side2 ?side3 ?side4 A4.out).mono ?_); (case side1 => exact pC HR0.out); (case side2 => exact HC0.out); (case side3 => exact pC HR1.out); (case side4 => exact HC1.out); rintro e w' ⟨rfl, ⟨nd, rfl⟩⟩; refine ⟨_, rfl, ?_⟩) | ((with_reducible refine gate_callee (f := 41) rfl ?_); refine goesL_ (some 16) rfl rfl Try.func41 (by kernel_rfl) rfl #[.slice A0 l0.length c0, .slice A1 l1.length c1] rfl pA ?_; (with_reducible refine (gradineref21_Sources.calls k _ _ l0 _ _ l1 t502 _ ?side1 ?side2 ?side3 ?side4 A8.out).mono ?_); (case side1 => exact pC HR0.out); (case side2 => exact HC0.out); (case side3 => exact pC HR1.out); (case side4 => exact HC1.out); rintro e w33 ⟨v503, rfl, ho0, hb⟩; refine ⟨_, rfl, ?_⟩; have n0_ := Aside0.mk (Kd.R_lower ho0 (below_size (pB HB.out))); have n1_ := Aside0.mk (below_step (pB HB.out) hb); clear HB; have HO504 := n0_; have HB := n1_; clear n0_ n1_; (try clear hb); (try clear hb2); (try clear hk); (try clear hi); (try clear ho0)) | ((with_reducible refine gate_callee (f := 42) rfl ?_); refine goesL_ (some 21) rfl rfl Try.func42 (by kernel_rfl) rfl #[.slice A0 l0.length c0, .slice A1 l1.length c1, .int .i64 a2] rfl pA ?_; (with_reducible refine (spread_Source.calls k _ _ l0 _ _ l1 a2 t505 true _ ?side1 ?side2 ?side3 ?side4 A9.out).mono ?_); (case side1 => exact pC (Kd.C_below HR0.out HB.out)); (case side2 => exact HC0.out); (case side3 => exact pC (Kd.C_below HR1.out HB.out)); (case side4 => exact HC1.out); rintro e w34 ⟨rfl, hb⟩; refine ⟨_, rfl, ?_⟩; have n0_ := Aside0.mk (Kd.R_below (pR HO504.out) hb); have n1_ := Aside0.mk (below_step (pB HB.out) hb); clear HO504; clear HB; have HO504 := n0_; have HB := n1_; clear n0_ n1_; (try clear hb); (try clear hb2); (try clear hk); (try clear hi); obtain ⟨Ao35, co35, eo35⟩ := Kd.R_slice HO504.out; subst eo35; have p510 : 0 ≤ (a2 : Int) := of_decide_eq_true pD; have q510 : a2 < (t502.length : Int) := of_decide_eq_true pD; obtain ⟨ad510, e510, hx510_0⟩ := Kd.at_int (Kd.R_reads' HO504.out).2.2 a2 p510 q510; cases e510; replace p510 := eq_true p510; replace q510 := eq_true q510) | ((with_reducible refine gate_callee (f := 36) rfl ?_); refine goesL_ (some 53) rfl rfl Try.func36 (by kernel_rfl) rfl #[] rfl pA ?_; (with_reducible refine (gradinelaw21_same.calls k  t511 _ A32.out).mono ?_); rintro e w36 ⟨rfl, hb⟩; refine ⟨_, rfl, ?_⟩; have n0_ := Aside0.mk (Kd.R_below (pR HO504.out) hb); have n1_ := Aside0.mk (below_step (pB HB.out) hb); clear HO504; clear HB; have HO504 := n0_; have HB := n1_; clear n0_ n1_; (try clear hb); (try clear hb2); (try clear hk); (try clear hi)))
        all_goals (go_ret; replace hv_ := hv_.out; exact ⟨by first | rfl | (simp [errW_none, errW_some] <;> rfl) | (simp [*, errW_none, errW_some] <;> rfl), pB HB.out⟩)
       ·rw [if_neg c31] at H
        have c31b0 : (t505 == (rd t502 a2)) = false := beq_eq_false_iff_ne.mpr c31
        have c31b1 : (t505 != (rd t502 a2)) = true := bne_iff_ne.mpr c31
        exact absurd H (by simp)
      ·rw [if_neg c30] at H
       exact absurd H (by simp)
     ·rw [if_neg c29] at H
      exact absurd H (by simp)
    ·replace c28 := Bool.eq_false_iff.mpr c28
     subst c28
     have H1 : (if t505 = 0 then ((gradinelaw21_same.f k).bind fun t512 => (some t512)) else (some false)) = some true := by rw [if_neg (show ¬ (false = true) by decide)] at H; exact H
     clear H
     have H := H1
     clear H1
     by_cases c37 : t505 = 0
     ·rw [if_pos c37] at H
      have c37b0 : (t505 == 0) = true := beq_iff_eq.mpr c37
      have c37b1 : (t505 != 0) = false := bne_eq_false_iff_eq.mpr c37
      clear c37
      replace H := Option.bind_eq_some_iff.mp H
      obtain ⟨t512, A380, H⟩ := H
      replace H : (some t512) = some true := H
      have A38 := Aside0.mk A380
      clear A380
      have hv_ := Aside0.mk (Option.some.inj H)
      clear H
      go_enter Try.func10, Try.ntmps10
      go_wp2_with (first | ((with_reducible refine gate_callee (f := 13) rfl ?_); refine goesL_ (some 12) rfl rfl Try.func13 (by kernel_rfl) rfl #[.slice A0 l0.length c0, .slice A1 l1.length c1] rfl pA ?_; (with_reducible refine (gradinelaw19_Many.calls _ _ l0 _ _ l1 false _ ?side1 ?side2 ?side3 ?side4 A4.out).mono ?_); (case side1 => exact pC HR0.out); (case side2 => exact HC0.out); (case side3 => exact pC HR1.out); (case side4 => exact HC1.out); rintro e w' ⟨rfl, ⟨nd, rfl⟩⟩; refine ⟨_, rfl, ?_⟩) | ((with_reducible refine gate_callee (f := 41) rfl ?_); refine goesL_ (some 16) rfl rfl Try.func41 (by kernel_rfl) rfl #[.slice A0 l0.length c0, .slice A1 l1.length c1] rfl pA ?_; (with_reducible refine (gradineref21_Sources.calls k _ _ l0 _ _ l1 t502 _ ?side1 ?side2 ?side3 ?side4 A8.out).mono ?_); (case side1 => exact pC HR0.out); (case side2 => exact HC0.out); (case side3 => exact pC HR1.out); (case side4 => exact HC1.out); rintro e w39 ⟨v503, rfl, ho0, hb⟩; refine ⟨_, rfl, ?_⟩; have n0_ := Aside0.mk (Kd.R_lower ho0 (below_size (pB HB.out))); have n1_ := Aside0.mk (below_step (pB HB.out) hb); clear HB; have HO504 := n0_; have HB := n1_; clear n0_ n1_; (try clear hb); (try clear hb2); (try clear hk); (try clear hi); (try clear ho0)) | ((with_reducible refine gate_callee (f := 42) rfl ?_); refine goesL_ (some 21) rfl rfl Try.func42 (by kernel_rfl) rfl #[.slice A0 l0.length c0, .slice A1 l1.length c1, .int .i64 a2] rfl pA ?_; (with_reducible refine (spread_Source.calls k _ _ l0 _ _ l1 a2 t505 false _ ?side1 ?side2 ?side3 ?side4 A9.out).mono ?_); (case side1 => exact pC (Kd.C_below HR0.out HB.out)); (case side2 => exact HC0.out); (case side3 => exact pC (Kd.C_below HR1.out HB.out)); (case side4 => exact HC1.out); rintro e w40 ⟨rfl, hb⟩; refine ⟨_, rfl, ?_⟩; have n0_ := Aside0.mk (Kd.R_below (pR HO504.out) hb); have n1_ := Aside0.mk (below_step (pB HB.out) hb); clear HO504; clear HB; have HO504 := n0_; have HB := n1_; clear n0_ n1_; (try clear hb); (try clear hb2); (try clear hk); (try clear hi)) | ((with_reducible refine gate_callee (f := 36) rfl ?_); refine goesL_ (some 53) rfl rfl Try.func36 (by kernel_rfl) rfl #[] rfl pA ?_; (with_reducible refine (gradinelaw21_same.calls k  t512 _ A38.out).mono ?_); rintro e w41 ⟨rfl, hb⟩; refine ⟨_, rfl, ?_⟩; have n0_ := Aside0.mk (Kd.R_below (pR HO504.out) hb); have n1_ := Aside0.mk (below_step (pB HB.out) hb); clear HO504; clear HB; have HO504 := n0_; have HB := n1_; clear n0_ n1_; (try clear hb); (try clear hb2); (try clear hk); (try clear hi)))
      all_goals (go_ret; replace hv_ := hv_.out; exact ⟨by first | rfl | (simp [errW_none, errW_some] <;> rfl) | (simp [*, errW_none, errW_some] <;> rfl), pB HB.out⟩)
     ·rw [if_neg c37] at H
      have c37b0 : (t505 == 0) = false := beq_eq_false_iff_ne.mpr c37
      have c37b1 : (t505 != 0) = true := bne_iff_ne.mpr c37
      exact absurd H (by simp)

/-- THE ONE PURE STATEMENT of gradinelaw21_SpreadSources: yours. -/
def gradinelaw21_SpreadSources.Pure : Prop := ∀ (l0 : List Int) (l1 : List Int) (a2 : Int), l0.length ≤ maxLen → l0.length * 8 ≤ 140737488351232 → (∀ x ∈ l0, (Lit.int .i64 x).wf = true) → l1.length ≤ maxLen → l1.length * 8 ≤ 140737488351232 → (∀ x ∈ l1, (Lit.int .i64 x).wf = true) → (Lit.int .i64 a2).wf = true → ∃ k, gradinelaw21_SpreadSources.f k l0 l1 a2 = some true
theorem gradinelaw21_SpreadSources.walk (P : gradinelaw21_SpreadSources.Pure) (a0 : Option Addr) (len0 cap0 : Nat) (z0 : List Int) (a1 : Option Addr) (len1 cap1 : Nat) (z1 : List Int) (a2 : Int) (w : World) (w0 : (a0 = none ∧ len0 = 0 ∧ cap0 = 0 ∧ z0 = []) ∨ ∃ x, a0 = some x ∧ len0 ≤ cap0 ∧ cap0 ≤ maxLen ∧ z0.length = cap0 ∧ (∀ i, i < z0.length → w.cell? (x.add i) = some (.int .i64 (z0.getD i 0))) ∧ ∀ n ∈ z0, (Lit.int .i64 n).wf = true) (y0 : len0 * 8 ≤ 140737488351232) (w1 : (a1 = none ∧ len1 = 0 ∧ cap1 = 0 ∧ z1 = []) ∨ ∃ x, a1 = some x ∧ len1 ≤ cap1 ∧ cap1 ≤ maxLen ∧ z1.length = cap1 ∧ (∀ i, i < z1.length → w.cell? (x.add i) = some (.int .i64 (z1.getD i 0))) ∧ ∀ n ∈ z1, (Lit.int .i64 n).wf = true) (y1 : len1 * 8 ≤ 140737488351232) (w2 : (Lit.int .i64 a2).wf = true) :
  Calls Try.prog 10 #[.slice a0 len0 cap0, .slice a1 len1 cap1, .int .i64 a2] w fun e w' => e = .returned (.bool true) ∧ Below w.heap.size w w' := by
 obtain ⟨l0, rfl, hr0, hm0, hw0, hc0⟩ := ReadsInt.ofRowC w0
 obtain ⟨l1, rfl, hr1, hm1, hw1, hc1⟩ := ReadsInt.ofRowC w1
 obtain ⟨k, h⟩ := P l0 l1 a2 hm0 y0 hw0 hm1 y1 hw1 w2
 refine (gradinelaw21_SpreadSources.calls k _ _ l0 _ _ l1 a2 w (Kd.C_of_reads (d := (0 : Int)) (h1 := fun _ => rfl) hr0) hc0 (Kd.C_of_reads (d := (0 : Int)) (h1 := fun _ => rfl) hr1) hc1 h).mono ?_
 rintro e w' ⟨rfl, hd⟩
 exact ⟨rfl, hd⟩

end Go.Proofs.Ytpoldofghcmfnaa.Q
