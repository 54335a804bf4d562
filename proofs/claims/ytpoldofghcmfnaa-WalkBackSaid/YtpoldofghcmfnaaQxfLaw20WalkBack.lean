-- Written by this session's program wip/gprint.py, which drives the kit's print.py and puts the session's own texts in for some functions.
import Derived.Test.YtpoldofghcmfnaaQx0
import Derived.Test.YtpoldofghcmfnaaQxfLaw19Many
import Derived.Test.YtpoldofghcmfnaaQxfLaw20Same
import Derived.Test.YtpoldofghcmfnaaQxfWalkAhead
import Derived.Test.YtpoldofghcmfnaaQxfWalkAt
import Derived.Test.YtpoldofghcmfnaaQxfWalkPlace
namespace Go.Proofs.Ytpoldofghcmfnaa.Q
open Go.RowKit Go.Proofs.YtpoldofghcmfnaaW.PrintWords Go.Proofs.YtpoldofghcmfnaaW.PrintLast Go.Proofs.YtpoldofghcmfnaaW.PrintMore
attribute [local go_sem] max2_int min2_int max_two min_two max_three min_three max_four min_four   -- for this text's walks alone
set_option linter.unusedVariables false
set_option linter.unusedSimpArgs false

/-! ### gradinelaw20_WalkBack: function 8 -/
def gradinelaw20_WalkBack.j0 : Nat → Int → Int → List Int → Bool → List Int → Bool → Bool → Option (Bool)
 | 0, _, _, _, _, _, _, _ => none
 | k + 1, x1, x2, x7, x8, x9, x10, x43 => if x43 = true then (some false) else (if x8 = true then (if x10 = true then ((walk_Ahead.f k x7 x9).bind fun t418 => (if (t418 != (decide (x1 < x2))) = true then (some false) else ((walk_Ahead.f k x9 x7).bind fun t419 => (if (t419 != (decide (x2 < x1))) = true then (some false) else ((gradinelaw20_same.f k).bind fun t420 => (some t420)))))) else ((gradinelaw20_same.f k).bind fun t421 => (some t421))) else ((gradinelaw20_same.f k).bind fun t422 => (some t422)))
def gradinelaw20_WalkBack.f (k : Nat) (l0 : List Int) (a1 : Int) (a2 : Int) : Option (Bool) := (gradinelaw19_Many.f l0 ([] : List Int)).bind fun t406 => (if t406 = true then ((gradinelaw20_same.f k).bind fun t407 => (some t407)) else ((walk_At.f k l0 a1).bind fun bt408 => ((walk_At.f k l0 a2).bind fun bt412 => ((walk_Place.f k l0 bt408.1).bind fun bt416 => (if bt408.2 = true then (if bt416.2 = true then (gradinelaw20_WalkBack.j0 k a1 a2 bt408.1 bt408.2 bt412.1 bt412.2 (bt416.1 != a1)) else (gradinelaw20_WalkBack.j0 k a1 a2 bt408.1 bt408.2 bt412.1 bt412.2 true)) else (gradinelaw20_WalkBack.j0 k a1 a2 bt408.1 bt408.2 bt412.1 bt412.2 false))))))
set_option maxHeartbeats 8000000 in
set_option maxRecDepth 100000 in
theorem gradinelaw20_WalkBack.calls (k : Nat) (A0 : Option Addr) (c0 : Nat) (l0 : List Int) (a1 : Int) (a2 : Int) (w : World) (hr0 : Kd.C (Kd.int .i64) w A0 l0.length l0) (hc0 : l0.length ≤ c0) (h : gradinelaw20_WalkBack.f k l0 a1 a2 = some true) :
  Calls Try.prog 8 #[.slice A0 l0.length c0, .int .i64 a1, .int .i64 a2] w fun e w' => e = .returned (.bool true) ∧ Below w.heap.size w w' := by
 have HR0 := Aside0.mk hr0
 have HC0 := Aside0.mk hc0
 clear hr0 hc0
 have HB := Aside0.mk (Below.refl w.heap.size w)
 have H : ((gradinelaw19_Many.f l0 ([] : List Int)).bind fun t406 => (if t406 = true then ((gradinelaw20_same.f k).bind fun t407 => (some t407)) else ((walk_At.f k l0 a1).bind fun bt408 => ((walk_At.f k l0 a2).bind fun bt412 => ((walk_Place.f k l0 bt408.1).bind fun bt416 => (if bt408.2 = true then (if bt416.2 = true then (gradinelaw20_WalkBack.j0 k a1 a2 bt408.1 bt408.2 bt412.1 bt412.2 (bt416.1 != a1)) else (gradinelaw20_WalkBack.j0 k a1 a2 bt408.1 bt408.2 bt412.1 bt412.2 true)) else (gradinelaw20_WalkBack.j0 k a1 a2 bt408.1 bt408.2 bt412.1 bt412.2 false))))))) = some true := h
 clear h
 replace H := Option.bind_eq_some_iff.mp H
 obtain ⟨t406, A40, H⟩ := H
 replace H : (if t406 = true then ((gradinelaw20_same.f k).bind fun t407 => (some t407)) else ((walk_At.f k l0 a1).bind fun bt408 => ((walk_At.f k l0 a2).bind fun bt412 => ((walk_Place.f k l0 bt408.1).bind fun bt416 => (if bt408.2 = true then (if bt416.2 = true then (gradinelaw20_WalkBack.j0 k a1 a2 bt408.1 bt408.2 bt412.1 bt412.2 (bt416.1 != a1)) else (gradinelaw20_WalkBack.j0 k a1 a2 bt408.1 bt408.2 bt412.1 bt412.2 true)) else (gradinelaw20_WalkBack.j0 k a1 a2 bt408.1 bt408.2 bt412.1 bt412.2 false)))))) = some true := H
 have A4 := Aside0.mk A40
 clear A40
 by_cases c5 : t406 = true
 ·subst c5
  have H1 : ((gradinelaw20_same.f k).bind fun t407 => (some t407)) = some true := by rw [if_pos rfl] at H; exact H
  clear H
  have H := H1
  clear H1
  replace H := Option.bind_eq_some_iff.mp H
  obtain ⟨t407, A60, H⟩ := H
  replace H : (some t407) = some true := H
  have A6 := Aside0.mk A60
  clear A60
  have hv_ := Aside0.mk (Option.some.inj H)
  clear H
  go_enter Try.func8, Try.ntmps8
  go_wp2_with (first | ((with_reducible refine gate_callee (f := 13) rfl ?_); refine goesL_ (some 14) rfl rfl Try.func13 (by kernel_rfl) rfl #[.slice A0 l0.length c0, .slice none 0 0] rfl pA ?_; (refine (gradinelaw19_Many.calls _ _ l0 _ _ ([] : List Int) true _ ?side1 ?side2 ?side3 ?side4 A4.out).mono ?_); (case side1 => exact pC HR0.out); (case side2 => exact HC0.out); (case side3 => exact Kd.C_nil _ _); (case side4 => exact Nat.le_refl _); rintro e w' ⟨rfl, ⟨nd, rfl⟩⟩; refine ⟨_, rfl, ?_⟩) | ((with_reducible refine gate_callee (f := 27) rfl ?_); refine goesL_ (some 15) rfl rfl Try.func27 (by kernel_rfl) rfl #[] rfl pA ?_; (with_reducible refine (gradinelaw20_same.calls k  t407 _ A6.out).mono ?_); rintro e w7 ⟨rfl, hb⟩; refine ⟨_, rfl, ?_⟩; have n0_ := Aside0.mk (below_step (pB HB.out) hb); clear HB; have HB := n0_; clear n0_; (try clear hb); (try clear hb2); (try clear hk); (try clear hi)))
  go_ret
  replace hv_ := hv_.out
  exact ⟨pE, pB HB.out⟩
 ·replace c5 := Bool.eq_false_iff.mpr c5
  subst c5
  have H1 : ((walk_At.f k l0 a1).bind fun bt408 => ((walk_At.f k l0 a2).bind fun bt412 => ((walk_Place.f k l0 bt408.1).bind fun bt416 => (if bt408.2 = true then (if bt416.2 = true then (gradinelaw20_WalkBack.j0 k a1 a2 bt408.1 bt408.2 bt412.1 bt412.2 (bt416.1 != a1)) else (gradinelaw20_WalkBack.j0 k a1 a2 bt408.1 bt408.2 bt412.1 bt412.2 true)) else (gradinelaw20_WalkBack.j0 k a1 a2 bt408.1 bt408.2 bt412.1 bt412.2 false))))) = some true := by rw [if_neg (show ¬ (false = true) by decide)] at H; exact H
  clear H
  have H := H1
  clear H1
  replace H := Option.bind_eq_some_iff.mp H
  obtain ⟨⟨t408, t409⟩, A80, H⟩ := H
  replace H : ((walk_At.f k l0 a2).bind fun bt412 => ((walk_Place.f k l0 t408).bind fun bt416 => (if t409 = true then (if bt416.2 = true then (gradinelaw20_WalkBack.j0 k a1 a2 t408 t409 bt412.1 bt412.2 (bt416.1 != a1)) else (gradinelaw20_WalkBack.j0 k a1 a2 t408 t409 bt412.1 bt412.2 true)) else (gradinelaw20_WalkBack.j0 k a1 a2 t408 t409 bt412.1 bt412.2 false)))) = some true := H
  have A8 := Aside0.mk A80
  clear A80
  replace H := Option.bind_eq_some_iff.mp H
  obtain ⟨⟨t412, t413⟩, A90, H⟩ := H
  replace H : ((walk_Place.f k l0 t408).bind fun bt416 => (if t409 = true then (if bt416.2 = true then (gradinelaw20_WalkBack.j0 k a1 a2 t408 t409 t412 t413 (bt416.1 != a1)) else (gradinelaw20_WalkBack.j0 k a1 a2 t408 t409 t412 t413 true)) else (gradinelaw20_WalkBack.j0 k a1 a2 t408 t409 t412 t413 false))) = some true := H
  have A9 := Aside0.mk A90
  clear A90
  replace H := Option.bind_eq_some_iff.mp H
  obtain ⟨⟨t416, t417⟩, A100, H⟩ := H
  replace H : (if t409 = true then (if t417 = true then (gradinelaw20_WalkBack.j0 k a1 a2 t408 t409 t412 t413 (t416 != a1)) else (gradinelaw20_WalkBack.j0 k a1 a2 t408 t409 t412 t413 true)) else (gradinelaw20_WalkBack.j0 k a1 a2 t408 t409 t412 t413 false)) = some true := H
  have A10 := Aside0.mk A100
  clear A100
  have HC11 := Aside0.mk H
  clear H
  go_enter Try.func8, Try.ntmps8
  go_upto_region 6 with (first | ((with_reducible refine gate_callee (f := 13) rfl ?_); refine goesL_ (some 14) rfl rfl Try.func13 (by kernel_rfl) rfl #[.slice A0 l0.length c0, .slice none 0 0] rfl pA ?_; (refine (gradinelaw19_Many.calls _ _ l0 _ _ ([] : List Int) false _ ?side1 ?side2 ?side3 ?side4 A4.out).mono ?_); (case side1 => exact pC HR0.out); (case side2 => exact HC0.out); (case side3 => exact Kd.C_nil _ _); (case side4 => exact Nat.le_refl _); rintro e w' ⟨rfl, ⟨nd, rfl⟩⟩; refine ⟨_, rfl, ?_⟩) | ((with_reducible refine gate_callee (f := 32) rfl ?_); refine goesL_ (some 19) rfl rfl Try.func32 (by kernel_rfl) rfl #[.slice A0 l0.length c0, .int .i64 a1] rfl pA ?_; (with_reducible refine (walk_At.calls k _ _ l0 a1 t408 t409 _ ?side1 ?side2 A8.out).mono ?_); (case side1 => exact pC HR0.out); (case side2 => exact HC0.out); rintro e w12 ⟨v410, rfl, ho0, hb⟩; refine ⟨_, rfl, ?_⟩; have n0_ := Aside0.mk (Kd.R_lower ho0 (below_size (pB HB.out))); have n1_ := Aside0.mk (below_step (pB HB.out) hb); clear HB; have HO411 := n0_; have HB := n1_; clear n0_ n1_; (try clear hb); (try clear hb2); (try clear hk); (try clear hi); (try clear ho0)) | ((with_reducible refine gate_callee (f := 32) rfl ?_); refine goesL_ (some 25) rfl rfl Try.func32 (by kernel_rfl) rfl #[.slice A0 l0.length c0, .int .i64 a2] rfl pA ?_; (with_reducible refine (walk_At.calls k _ _ l0 a2 t412 t413 _ ?side1 ?side2 A9.out).mono ?_); (case side1 => exact pC (Kd.C_below HR0.out HB.out)); (case side2 => exact HC0.out); rintro e w13 ⟨v414, rfl, ho0, hb⟩; refine ⟨_, rfl, ?_⟩; have n0_ := Aside0.mk (Kd.R_elder' (pR HO411.out) (Kd.R_base ho0) hb); have n1_ := Aside0.mk (Kd.R_lower (Kd.R_new' ho0 (Kd.R_lt (pR HO411.out))) (below_size (pB HB.out))); have n2_ := Aside0.mk (below_step (pB HB.out) hb); clear HO411; clear HB; have HO411 := n0_; have HO415 := n1_; have HB := n2_; clear n0_ n1_ n2_; (try clear hb); (try clear hb2); (try clear hk); (try clear hi); (try clear ho0); obtain ⟨Ao14, co14, eo14⟩ := Kd.R_slice HO411.out; subst eo14) | ((with_reducible refine gate_callee (f := 33) rfl ?_); refine goesL_ (some 31) rfl rfl Try.func33 (by kernel_rfl) rfl #[.slice A0 l0.length c0, .slice Ao14 t408.length co14] rfl pA ?_; (with_reducible refine (walk_Place.calls k _ _ l0 _ _ t408 t416 t417 _ ?side1 ?side2 ?side3 ?side4 A10.out).mono ?_); (case side1 => exact pC (Kd.C_below HR0.out HB.out)); (case side2 => exact HC0.out); (case side3 => exact pC (Kd.R_reads' HO411.out).2.2); (case side4 => exact (Kd.R_reads' HO411.out).2.1); rintro e w' ⟨rfl, ⟨nd, rfl⟩⟩; refine ⟨_, rfl, ?_⟩))
  (try simp only [Act.put, List.setIfInBounds_toArray, List.set_cons_zero, List.set_cons_succ])
  go_cut [43] (fun v43 wc => ∃ (kq : Nat) (x43_10 : Bool), v43 = .bool x43_10 ∧ Aside0 (gradinelaw20_WalkBack.j0 kq a1 a2 t408 t409 t412 t413 x43_10 = some true) ∧ Aside0 (kq ≤ k) ∧ Aside0 (Kd.R (Kd.int .i64) 3 wc w.heap.size (fun k_ => some k_ ≠ (v414 : Value).ownBlock) (.slice Ao14 t408.length co14) t408) ∧ Aside0 (Kd.R (Kd.int .i64) 3 wc w.heap.size (fun k_ => some k_ ≠ ((.slice Ao14 t408.length co14) : Value).ownBlock) v414 t412) ∧ Aside0 (Below w.heap.size w wc))
  case first =>
   have H := HC11.out
   clear HC11
   by_cases c15 : t409 = true
   ·subst c15
    have H1 : (if t417 = true then (gradinelaw20_WalkBack.j0 k a1 a2 t408 true t412 t413 (t416 != a1)) else (gradinelaw20_WalkBack.j0 k a1 a2 t408 true t412 t413 true)) = some true := by rw [if_pos rfl] at H; exact H
    clear H
    have H := H1
    clear H1
    by_cases c16 : t417 = true
    ·subst c16
     have H1 : (gradinelaw20_WalkBack.j0 k a1 a2 t408 true t412 t413 (t416 != a1)) = some true := by rw [if_pos rfl] at H; exact H
     clear H
     have H := H1
     clear H1
     have H' := Aside0.mk H
     clear H
     go_wp2
     go_meet
     case rel => exact ⟨_, ((t416 != a1)), (pF), H', ⟨by first | omega | exact Nat.le_refl _⟩, ⟨by (with_reducible repeat (first | apply Kd.R_alloc | apply Kd.R_drewN | apply Kd.R_drew)); exact Kd.R_mono HO411.out (fun _ hk => hk.2)⟩, ⟨by (with_reducible repeat (first | apply Kd.R_alloc | apply Kd.R_drewN | apply Kd.R_drew)); exact Kd.R_mono HO415.out (fun _ hk => hk.2)⟩, ⟨pB HB.out⟩⟩
    ·replace c16 := Bool.eq_false_iff.mpr c16
     subst c16
     have H1 : (gradinelaw20_WalkBack.j0 k a1 a2 t408 true t412 t413 true) = some true := by rw [if_neg (show ¬ (false = true) by decide)] at H; exact H
     clear H
     have H := H1
     clear H1
     have H' := Aside0.mk H
     clear H
     go_wp2
     go_meet
     case rel => exact ⟨_, (true), (pF), H', ⟨by first | omega | exact Nat.le_refl _⟩, ⟨by (with_reducible repeat (first | apply Kd.R_alloc | apply Kd.R_drewN | apply Kd.R_drew)); exact Kd.R_mono HO411.out (fun _ hk => hk.2)⟩, ⟨by (with_reducible repeat (first | apply Kd.R_alloc | apply Kd.R_drewN | apply Kd.R_drew)); exact Kd.R_mono HO415.out (fun _ hk => hk.2)⟩, ⟨pB HB.out⟩⟩
   ·replace c15 := Bool.eq_false_iff.mpr c15
    subst c15
    have H1 : (gradinelaw20_WalkBack.j0 k a1 a2 t408 false t412 t413 false) = some true := by rw [if_neg (show ¬ (false = true) by decide)] at H; exact H
    clear H
    have H := H1
    clear H1
    have H' := Aside0.mk H
    clear H
    go_wp2
    go_meet
    case rel => exact ⟨_, (false), (pF), H', ⟨by first | omega | exact Nat.le_refl _⟩, ⟨by (with_reducible repeat (first | apply Kd.R_alloc | apply Kd.R_drewN | apply Kd.R_drew)); exact Kd.R_mono HO411.out (fun _ hk => hk.2)⟩, ⟨by (with_reducible repeat (first | apply Kd.R_alloc | apply Kd.R_drewN | apply Kd.R_drew)); exact Kd.R_mono HO415.out (fun _ hk => hk.2)⟩, ⟨pB HB.out⟩⟩
  case rest =>
   clear HC11
   try clear c1
   try clear c2
   try clear p2
   try clear c3
   try clear c5
   try clear c8
   try clear c13
   try clear c15
   try clear c16
   obtain ⟨kq, x43_10, rfl, HA, HJ10, HO_7, HO_9, HB⟩ := hcut
   cases kq with
   | zero => exact absurd HA.out (by simp [gradinelaw20_WalkBack.j0])
   | succ kj10 =>
    have H := HA.out
    clear HA
    simp only [gradinelaw20_WalkBack.j0] at H
    by_cases c17 : x43_10 = true
    ·subst c17
     have H1 : (some false) = some true := by rw [if_pos rfl] at H; exact H
     clear H
     have H := H1
     clear H1
     exact absurd H (by simp)
    ·replace c17 := Bool.eq_false_iff.mpr c17
     subst c17
     have H1 : (if t409 = true then (if t413 = true then ((walk_Ahead.f kj10 t408 t412).bind fun t418 => (if (t418 != (decide (a1 < a2))) = true then (some false) else ((walk_Ahead.f kj10 t412 t408).bind fun t419 => (if (t419 != (decide (a2 < a1))) = true then (some false) else ((gradinelaw20_same.f kj10).bind fun t420 => (some t420)))))) else ((gradinelaw20_same.f kj10).bind fun t421 => (some t421))) else ((gradinelaw20_same.f kj10).bind fun t422 => (some t422))) = some true := by rw [if_neg (show ¬ (false = true) by decide)] at H; exact H
     clear H
     have H := H1
     clear H1
     by_cases c18 : t409 = true
     ·subst c18
      have H1 : (if t413 = true then ((walk_Ahead.f kj10 t408 t412).bind fun t418 => (if (t418 != (decide (a1 < a2))) = true then (some false) else ((walk_Ahead.f kj10 t412 t408).bind fun t419 => (if (t419 != (decide (a2 < a1))) = true then (some false) else ((gradinelaw20_same.f kj10).bind fun t420 => (some t420)))))) else ((gradinelaw20_same.f kj10).bind fun t421 => (some t421))) = some true := by rw [if_pos rfl] at H; exact H
      clear H
      have H := H1
      clear H1
      by_cases c19 : t413 = true
      ·subst c19
       have H1 : ((walk_Ahead.f kj10 t408 t412).bind fun t418 => (if (t418 != (decide (a1 < a2))) = true then (some false) else ((walk_Ahead.f kj10 t412 t408).bind fun t419 => (if (t419 != (decide (a2 < a1))) = true then (some false) else ((gradinelaw20_same.f kj10).bind fun t420 => (some t420)))))) = some true := by rw [if_pos rfl] at H; exact H
       clear H
       have H := H1
       clear H1
       replace H := Option.bind_eq_some_iff.mp H
       obtain ⟨t418, A200, H⟩ := H
       replace H : (if (t418 != (decide (a1 < a2))) = true then (some false) else ((walk_Ahead.f kj10 t412 t408).bind fun t419 => (if (t419 != (decide (a2 < a1))) = true then (some false) else ((gradinelaw20_same.f kj10).bind fun t420 => (some t420))))) = some true := H
       have A20 := Aside0.mk A200
       clear A200
       by_cases c21 : (t418 != (decide (a1 < a2))) = true
       ·rw [if_pos c21] at H
        have c21b0 : (t418 != (decide (a1 < a2))) = true := c21
        (try (have c21b1 : decide (t418 = (decide (a1 < a2))) = false := by simpa using c21))
        (try (have c21b2 : (t418 == (decide (a1 < a2))) = false := by simpa using c21))
        (try (have c21b3 : ¬ (t418 = (decide (a1 < a2))) := by simpa using c21))
        clear c21
        exact absurd H (by simp)
       ·rw [if_neg c21] at H
        have c21b0 : (t418 != (decide (a1 < a2))) = false := by simpa using c21
        (try (have c21b1 : decide (t418 = (decide (a1 < a2))) = true := by simpa using c21))
        (try (have c21b2 : (t418 == (decide (a1 < a2))) = true := by simpa using c21))
        clear c21
        replace H := Option.bind_eq_some_iff.mp H
        obtain ⟨t419, A220, H⟩ := H
        replace H : (if (t419 != (decide (a2 < a1))) = true then (some false) else ((gradinelaw20_same.f kj10).bind fun t420 => (some t420))) = some true := H
        have A22 := Aside0.mk A220
        clear A220
        by_cases c23 : (t419 != (decide (a2 < a1))) = true
        ·rw [if_pos c23] at H
         have c23b0 : (t419 != (decide (a2 < a1))) = true := c23
         (try (have c23b1 : decide (t419 = (decide (a2 < a1))) = false := by simpa using c23))
         (try (have c23b2 : (t419 == (decide (a2 < a1))) = false := by simpa using c23))
         (try (have c23b3 : ¬ (t419 = (decide (a2 < a1))) := by simpa using c23))
         clear c23
         exact absurd H (by simp)
        ·rw [if_neg c23] at H
         have c23b0 : (t419 != (decide (a2 < a1))) = false := by simpa using c23
         (try (have c23b1 : decide (t419 = (decide (a2 < a1))) = true := by simpa using c23))
         (try (have c23b2 : (t419 == (decide (a2 < a1))) = true := by simpa using c23))
         clear c23
         replace H := Option.bind_eq_some_iff.mp H
         obtain ⟨t420, A240, H⟩ := H
         replace H : (some t420) = some true := H
         have A24 := Aside0.mk A240
         clear A240
         have hv_ := Aside0.mk (Option.some.inj H)
         clear H
         obtain ⟨Ao25, co25, eo25⟩ := Kd.R_slice HO_9.out
         subst eo25
         go_wp2_with (first | (go_at_call 28; (with_reducible refine (walk_Ahead.calls kj10 _ _ t408 _ _ t412 t418 _ ?side1 ?side2 ?side3 ?side4 A20.out).mono ?_); (case side1 => exact pC (Kd.R_reads' HO_7.out).2.2); (case side2 => exact (Kd.R_reads' HO_7.out).2.1); (case side3 => exact pC (Kd.R_reads' HO_9.out).2.2); (case side4 => exact (Kd.R_reads' HO_9.out).2.1); rintro e w26 ⟨rfl, hb⟩; have n0_ := Aside0.mk (Kd.R_below (pR HO_7.out) hb); have n1_ := Aside0.mk (Kd.R_below (pR HO_9.out) hb); have n2_ := Aside0.mk (below_step (pB HB.out) hb); clear HO_7; clear HO_9; clear HB; have HO_7 := n0_; have HO_9 := n1_; have HB := n2_; clear n0_ n1_ n2_; (try clear hb); (try clear hb2); (try clear hk); (try clear hi)) | (go_at_call 28; (with_reducible refine (walk_Ahead.calls kj10 _ _ t412 _ _ t408 t419 _ ?side1 ?side2 ?side3 ?side4 A22.out).mono ?_); (case side1 => exact pC (Kd.R_reads' HO_9.out).2.2); (case side2 => exact (Kd.R_reads' HO_9.out).2.1); (case side3 => exact pC (Kd.R_reads' HO_7.out).2.2); (case side4 => exact (Kd.R_reads' HO_7.out).2.1); rintro e w27 ⟨rfl, hb⟩; have n0_ := Aside0.mk (Kd.R_below (pR HO_7.out) hb); have n1_ := Aside0.mk (Kd.R_below (pR HO_9.out) hb); have n2_ := Aside0.mk (below_step (pB HB.out) hb); clear HO_7; clear HO_9; clear HB; have HO_7 := n0_; have HO_9 := n1_; have HB := n2_; clear n0_ n1_ n2_; (try clear hb); (try clear hb2); (try clear hk); (try clear hi)) | ((with_reducible refine gate_callee (f := 27) rfl ?_); refine goesL_ (some 66) rfl rfl Try.func27 (by kernel_rfl) rfl #[] rfl pA ?_; (with_reducible refine (gradinelaw20_same.calls kj10  t420 _ A24.out).mono ?_); rintro e w28 ⟨rfl, hb⟩; refine ⟨_, rfl, ?_⟩; have n0_ := Aside0.mk (Kd.R_below (pR HO_7.out) hb); have n1_ := Aside0.mk (Kd.R_below (pR HO_9.out) hb); have n2_ := Aside0.mk (below_step (pB HB.out) hb); clear HO_7; clear HO_9; clear HB; have HO_7 := n0_; have HO_9 := n1_; have HB := n2_; clear n0_ n1_ n2_; (try clear hb); (try clear hb2); (try clear hk); (try clear hi)))
         go_ret
         replace hv_ := hv_.out
         exact ⟨pE, pB HB.out⟩
      ·replace c19 := Bool.eq_false_iff.mpr c19
       subst c19
       have H1 : ((gradinelaw20_same.f kj10).bind fun t421 => (some t421)) = some true := by rw [if_neg (show ¬ (false = true) by decide)] at H; exact H
       clear H
       have H := H1
       clear H1
       replace H := Option.bind_eq_some_iff.mp H
       obtain ⟨t421, A290, H⟩ := H
       replace H : (some t421) = some true := H
       have A29 := Aside0.mk A290
       clear A290
       have hv_ := Aside0.mk (Option.some.inj H)
       clear H
       go_wp2_with (first | ((with_reducible refine gate_callee (f := 27) rfl ?_); refine goesL_ (some 66) rfl rfl Try.func27 (by kernel_rfl) rfl #[] rfl pA ?_; (with_reducible refine (gradinelaw20_same.calls kj10  t421 _ A29.out).mono ?_); rintro e w30 ⟨rfl, hb⟩; refine ⟨_, rfl, ?_⟩; have n0_ := Aside0.mk (Kd.R_below (pR HO_7.out) hb); have n1_ := Aside0.mk (Kd.R_below (pR HO_9.out) hb); have n2_ := Aside0.mk (below_step (pB HB.out) hb); clear HO_7; clear HO_9; clear HB; have HO_7 := n0_; have HO_9 := n1_; have HB := n2_; clear n0_ n1_ n2_; (try clear hb); (try clear hb2); (try clear hk); (try clear hi)))
       go_ret
       replace hv_ := hv_.out
       exact ⟨pE, pB HB.out⟩
     ·replace c18 := Bool.eq_false_iff.mpr c18
      subst c18
      have H1 : ((gradinelaw20_same.f kj10).bind fun t422 => (some t422)) = some true := by rw [if_neg (show ¬ (false = true) by decide)] at H; exact H
      clear H
      have H := H1
      clear H1
      replace H := Option.bind_eq_some_iff.mp H
      obtain ⟨t422, A310, H⟩ := H
      replace H : (some t422) = some true := H
      have A31 := Aside0.mk A310
      clear A310
      have hv_ := Aside0.mk (Option.some.inj H)
      clear H
      go_wp2_with (first | ((with_reducible refine gate_callee (f := 27) rfl ?_); refine goesL_ (some 66) rfl rfl Try.func27 (by kernel_rfl) rfl #[] rfl pA ?_; (with_reducible refine (gradinelaw20_same.calls kj10  t422 _ A31.out).mono ?_); rintro e w32 ⟨rfl, hb⟩; refine ⟨_, rfl, ?_⟩; have n0_ := Aside0.mk (Kd.R_below (pR HO_7.out) hb); have n1_ := Aside0.mk (Kd.R_below (pR HO_9.out) hb); have n2_ := Aside0.mk (below_step (pB HB.out) hb); clear HO_7; clear HO_9; clear HB; have HO_7 := n0_; have HO_9 := n1_; have HB := n2_; clear n0_ n1_ n2_; (try clear hb); (try clear hb2); (try clear hk); (try clear hi)))
      go_ret
      replace hv_ := hv_.out
      exact ⟨pE, pB HB.out⟩

/-- THE ONE PURE STATEMENT of gradinelaw20_WalkBack: yours. -/
def gradinelaw20_WalkBack.Pure : Prop := ∀ (l0 : List Int) (a1 : Int) (a2 : Int), l0.length ≤ maxLen → l0.length * 8 ≤ 140737488351232 → (∀ x ∈ l0, (Lit.int .i64 x).wf = true) → (Lit.int .i64 a1).wf = true → (Lit.int .i64 a2).wf = true → ∃ k, gradinelaw20_WalkBack.f k l0 a1 a2 = some true
theorem gradinelaw20_WalkBack.walk (P : gradinelaw20_WalkBack.Pure) (a0 : Option Addr) (len0 cap0 : Nat) (z0 : List Int) (a1 : Int) (a2 : Int) (w : World) (w0 : (a0 = none ∧ len0 = 0 ∧ cap0 = 0 ∧ z0 = []) ∨ ∃ x, a0 = some x ∧ len0 ≤ cap0 ∧ cap0 ≤ maxLen ∧ z0.length = cap0 ∧ (∀ i, i < z0.length → w.cell? (x.add i) = some (.int .i64 (z0.getD i 0))) ∧ ∀ n ∈ z0, (Lit.int .i64 n).wf = true) (y0 : len0 * 8 ≤ 140737488351232) (w1 : (Lit.int .i64 a1).wf = true) (w2 : (Lit.int .i64 a2).wf = true) :
  Calls Try.prog 8 #[.slice a0 len0 cap0, .int .i64 a1, .int .i64 a2] w fun e w' => e = .returned (.bool true) ∧ Below w.heap.size w w' := by
 obtain ⟨l0, rfl, hr0, hm0, hw0, hc0⟩ := ReadsInt.ofRowC w0
 obtain ⟨k, h⟩ := P l0 a1 a2 hm0 y0 hw0 w1 w2
 refine (gradinelaw20_WalkBack.calls k _ _ l0 a1 a2 w (Kd.C_of_reads (d := (0 : Int)) (h1 := fun _ => rfl) hr0) hc0 h).mono ?_
 rintro e w' ⟨rfl, hd⟩
 exact ⟨rfl, hd⟩

end Go.Proofs.Ytpoldofghcmfnaa.Q
