-- Written by this session's program wip/gprint.py, which drives the kit's print.py and puts the session's own texts in for some functions.
import Derived.Test.YtpoldofghcmfnaaQx0
import Derived.Test.YtpoldofghcmfnaaQxfLaw19Many
import Derived.Test.YtpoldofghcmfnaaQxfLaw21Same
import Derived.Test.YtpoldofghcmfnaaQxfPlainInts
import Derived.Test.YtpoldofghcmfnaaQxfRef21Fits
import Derived.Test.YtpoldofghcmfnaaQxfRef21Two
import Derived.Test.YtpoldofghcmfnaaQxfSpreadFits
import Derived.Test.YtpoldofghcmfnaaQxfSpreadTwo
namespace Go.Proofs.Ytpoldofghcmfnaa.Q
open Go.RowKit Go.Proofs.YtpoldofghcmfnaaW.PrintWords Go.Proofs.YtpoldofghcmfnaaW.PrintLast Go.Proofs.YtpoldofghcmfnaaW.PrintMore
attribute [local go_sem] max2_int min2_int max_two min_two max_three min_three max_four min_four   -- for this text's walks alone
set_option linter.unusedVariables false
set_option linter.unusedSimpArgs false

/-! ### gradinelaw21_SpreadTwo: function 9 -/
def gradinelaw21_SpreadTwo.j0 : Nat → List Int → List Int → List Int → Int → List Int → Int → Bool → Option (Bool)
 | 0, _, _, _, _, _, _, _ => none
 | k + 1, x0, x1, x5, x6, x7, x8, x56 => if x56 = true then (some false) else (if x6 = x8 then ((gradineplain_Ints.f k x5 x7).bind fun t477 => (if t477 = true then ((spread_Fits.f k x0 x1).bind fun t478 => ((gradineref21_Fits.f k x0 x1).bind fun t479 => (if (t478 == t479) = true then ((gradinelaw21_same.f k).bind fun t480 => (some t480)) else (some false)))) else (some false))) else (some false))
def gradinelaw21_SpreadTwo.f (k : Nat) (l0 : List Int) (l1 : List Int) : Option (Bool) := (gradinelaw19_Many.f l0 l1).bind fun t460 => (if t460 = true then ((gradinelaw21_same.f k).bind fun t461 => (some t461)) else ((spread_Two.f k l0 l1).bind fun bt462 => ((gradineref21_Two.f k l0 l1).bind fun bt466 => ((spread_Two.f k l1 l0).bind fun bt470 => (if bt462.2 = 0 then (if bt470.2 = 0 then ((gradineplain_Ints.f k bt462.1 bt470.1).bind fun t474 => (if t474 = true then ((spread_Fits.f k l0 bt462.1).bind fun t475 => (if t475 = true then ((spread_Fits.f k l1 bt462.1).bind fun t476 => (gradinelaw21_SpreadTwo.j0 k l0 l1 bt462.1 bt462.2 bt466.1 bt466.2 (!t476))) else (gradinelaw21_SpreadTwo.j0 k l0 l1 bt462.1 bt462.2 bt466.1 bt466.2 true))) else (gradinelaw21_SpreadTwo.j0 k l0 l1 bt462.1 bt462.2 bt466.1 bt466.2 true))) else (gradinelaw21_SpreadTwo.j0 k l0 l1 bt462.1 bt462.2 bt466.1 bt466.2 true)) else (gradinelaw21_SpreadTwo.j0 k l0 l1 bt462.1 bt462.2 bt466.1 bt466.2 false))))))
set_option maxHeartbeats 8000000 in
set_option maxRecDepth 100000 in
theorem gradinelaw21_SpreadTwo.calls (k : Nat) (A0 : Option Addr) (c0 : Nat) (l0 : List Int) (A1 : Option Addr) (c1 : Nat) (l1 : List Int) (w : World) (hr0 : Kd.C (Kd.int .i64) w A0 l0.length l0) (hc0 : l0.length ≤ c0) (hr1 : Kd.C (Kd.int .i64) w A1 l1.length l1) (hc1 : l1.length ≤ c1) (h : gradinelaw21_SpreadTwo.f k l0 l1 = some true) :
  Calls Try.prog 9 #[.slice A0 l0.length c0, .slice A1 l1.length c1] w fun e w' => e = .returned (.bool true) ∧ Below w.heap.size w w' := by
 have HR0 := Aside0.mk hr0
 have HC0 := Aside0.mk hc0
 clear hr0 hc0
 have HR1 := Aside0.mk hr1
 have HC1 := Aside0.mk hc1
 clear hr1 hc1
 have HB := Aside0.mk (Below.refl w.heap.size w)
 have H : ((gradinelaw19_Many.f l0 l1).bind fun t460 => (if t460 = true then ((gradinelaw21_same.f k).bind fun t461 => (some t461)) else ((spread_Two.f k l0 l1).bind fun bt462 => ((gradineref21_Two.f k l0 l1).bind fun bt466 => ((spread_Two.f k l1 l0).bind fun bt470 => (if bt462.2 = 0 then (if bt470.2 = 0 then ((gradineplain_Ints.f k bt462.1 bt470.1).bind fun t474 => (if t474 = true then ((spread_Fits.f k l0 bt462.1).bind fun t475 => (if t475 = true then ((spread_Fits.f k l1 bt462.1).bind fun t476 => (gradinelaw21_SpreadTwo.j0 k l0 l1 bt462.1 bt462.2 bt466.1 bt466.2 (!t476))) else (gradinelaw21_SpreadTwo.j0 k l0 l1 bt462.1 bt462.2 bt466.1 bt466.2 true))) else (gradinelaw21_SpreadTwo.j0 k l0 l1 bt462.1 bt462.2 bt466.1 bt466.2 true))) else (gradinelaw21_SpreadTwo.j0 k l0 l1 bt462.1 bt462.2 bt466.1 bt466.2 true)) else (gradinelaw21_SpreadTwo.j0 k l0 l1 bt462.1 bt462.2 bt466.1 bt466.2 false))))))) = some true := h
 clear h
 replace H := Option.bind_eq_some_iff.mp H
 obtain ⟨t460, A30, H⟩ := H
 replace H : (if t460 = true then ((gradinelaw21_same.f k).bind fun t461 => (some t461)) else ((spread_Two.f k l0 l1).bind fun bt462 => ((gradineref21_Two.f k l0 l1).bind fun bt466 => ((spread_Two.f k l1 l0).bind fun bt470 => (if bt462.2 = 0 then (if bt470.2 = 0 then ((gradineplain_Ints.f k bt462.1 bt470.1).bind fun t474 => (if t474 = true then ((spread_Fits.f k l0 bt462.1).bind fun t475 => (if t475 = true then ((spread_Fits.f k l1 bt462.1).bind fun t476 => (gradinelaw21_SpreadTwo.j0 k l0 l1 bt462.1 bt462.2 bt466.1 bt466.2 (!t476))) else (gradinelaw21_SpreadTwo.j0 k l0 l1 bt462.1 bt462.2 bt466.1 bt466.2 true))) else (gradinelaw21_SpreadTwo.j0 k l0 l1 bt462.1 bt462.2 bt466.1 bt466.2 true))) else (gradinelaw21_SpreadTwo.j0 k l0 l1 bt462.1 bt462.2 bt466.1 bt466.2 true)) else (gradinelaw21_SpreadTwo.j0 k l0 l1 bt462.1 bt462.2 bt466.1 bt466.2 false)))))) = some true := H
 have A3 := Aside0.mk A30
 clear A30
 by_cases c4 : t460 = true
 ·subst c4
  have H1 : ((gradinelaw21_same.f k).bind fun t461 => (some t461)) = some true := by rw [if_pos rfl] at H; exact H
  clear H
  have H := H1
  clear H1
  replace H := Option.bind_eq_some_iff.mp H
  obtain ⟨t461, A50, H⟩ := H
  replace H : (some t461) = some true := H
  have A5 := Aside0.mk A50
  clear A50
  have hv_ := Aside0.mk (Option.some.inj H)
  clear H
  go_enter Try.func9, Try.ntmps9
  go_wp2_with (first | ((with_reducible refine gate_callee (f := 13) rfl ?_); refine goesL_ (some 13) rfl rfl Try.func13 (by kernel_rfl) rfl #[.slice A0 l0.length c0, .slice A1 l1.length c1] rfl pA ?_; (with_reducible refine (gradinelaw19_Many.calls _ _ l0 _ _ l1 true _ ?side1 ?side2 ?side3 ?side4 A3.out).mono ?_); (case side1 => exact pC HR0.out); (case side2 => exact HC0.out); (case side3 => exact pC HR1.out); (case side4 => exact HC1.out); rintro e w' ⟨rfl, ⟨nd, rfl⟩⟩; refine ⟨_, rfl, ?_⟩) | ((with_reducible refine gate_callee (f := 36) rfl ?_); refine goesL_ (some 14) rfl rfl Try.func36 (by kernel_rfl) rfl #[] rfl pA ?_; (with_reducible refine (gradinelaw21_same.calls k  t461 _ A5.out).mono ?_); rintro e w6 ⟨rfl, hb⟩; refine ⟨_, rfl, ?_⟩; have n0_ := Aside0.mk (below_step (pB HB.out) hb); clear HB; have HB := n0_; clear n0_; (try clear hb); (try clear hb2); (try clear hk); (try clear hi)))
  go_ret
  replace hv_ := hv_.out
  exact ⟨by first | rfl | (simp [errW_none, errW_some] <;> rfl) | (simp [*, errW_none, errW_some] <;> rfl), pB HB.out⟩
 ·replace c4 := Bool.eq_false_iff.mpr c4
  subst c4
  have H1 : ((spread_Two.f k l0 l1).bind fun bt462 => ((gradineref21_Two.f k l0 l1).bind fun bt466 => ((spread_Two.f k l1 l0).bind fun bt470 => (if bt462.2 = 0 then (if bt470.2 = 0 then ((gradineplain_Ints.f k bt462.1 bt470.1).bind fun t474 => (if t474 = true then ((spread_Fits.f k l0 bt462.1).bind fun t475 => (if t475 = true then ((spread_Fits.f k l1 bt462.1).bind fun t476 => (gradinelaw21_SpreadTwo.j0 k l0 l1 bt462.1 bt462.2 bt466.1 bt466.2 (!t476))) else (gradinelaw21_SpreadTwo.j0 k l0 l1 bt462.1 bt462.2 bt466.1 bt466.2 true))) else (gradinelaw21_SpreadTwo.j0 k l0 l1 bt462.1 bt462.2 bt466.1 bt466.2 true))) else (gradinelaw21_SpreadTwo.j0 k l0 l1 bt462.1 bt462.2 bt466.1 bt466.2 true)) else (gradinelaw21_SpreadTwo.j0 k l0 l1 bt462.1 bt462.2 bt466.1 bt466.2 false))))) = some true := by rw [if_neg (show ¬ (false = true) by decide)] at H; exact H
  clear H
  have H := H1
  clear H1
  replace H := Option.bind_eq_some_iff.mp H
  obtain ⟨⟨t462, t465⟩, A70, H⟩ := H
  replace H : ((gradineref21_Two.f k l0 l1).bind fun bt466 => ((spread_Two.f k l1 l0).bind fun bt470 => (if t465 = 0 then (if bt470.2 = 0 then ((gradineplain_Ints.f k t462 bt470.1).bind fun t474 => (if t474 = true then ((spread_Fits.f k l0 t462).bind fun t475 => (if t475 = true then ((spread_Fits.f k l1 t462).bind fun t476 => (gradinelaw21_SpreadTwo.j0 k l0 l1 t462 t465 bt466.1 bt466.2 (!t476))) else (gradinelaw21_SpreadTwo.j0 k l0 l1 t462 t465 bt466.1 bt466.2 true))) else (gradinelaw21_SpreadTwo.j0 k l0 l1 t462 t465 bt466.1 bt466.2 true))) else (gradinelaw21_SpreadTwo.j0 k l0 l1 t462 t465 bt466.1 bt466.2 true)) else (gradinelaw21_SpreadTwo.j0 k l0 l1 t462 t465 bt466.1 bt466.2 false)))) = some true := H
  have A7 := Aside0.mk A70
  clear A70
  replace H := Option.bind_eq_some_iff.mp H
  obtain ⟨⟨t466, t469⟩, A80, H⟩ := H
  replace H : ((spread_Two.f k l1 l0).bind fun bt470 => (if t465 = 0 then (if bt470.2 = 0 then ((gradineplain_Ints.f k t462 bt470.1).bind fun t474 => (if t474 = true then ((spread_Fits.f k l0 t462).bind fun t475 => (if t475 = true then ((spread_Fits.f k l1 t462).bind fun t476 => (gradinelaw21_SpreadTwo.j0 k l0 l1 t462 t465 t466 t469 (!t476))) else (gradinelaw21_SpreadTwo.j0 k l0 l1 t462 t465 t466 t469 true))) else (gradinelaw21_SpreadTwo.j0 k l0 l1 t462 t465 t466 t469 true))) else (gradinelaw21_SpreadTwo.j0 k l0 l1 t462 t465 t466 t469 true)) else (gradinelaw21_SpreadTwo.j0 k l0 l1 t462 t465 t466 t469 false))) = some true := H
  have A8 := Aside0.mk A80
  clear A80
  replace H := Option.bind_eq_some_iff.mp H
  obtain ⟨⟨t470, t473⟩, A90, H⟩ := H
  replace H : (if t465 = 0 then (if t473 = 0 then ((gradineplain_Ints.f k t462 t470).bind fun t474 => (if t474 = true then ((spread_Fits.f k l0 t462).bind fun t475 => (if t475 = true then ((spread_Fits.f k l1 t462).bind fun t476 => (gradinelaw21_SpreadTwo.j0 k l0 l1 t462 t465 t466 t469 (!t476))) else (gradinelaw21_SpreadTwo.j0 k l0 l1 t462 t465 t466 t469 true))) else (gradinelaw21_SpreadTwo.j0 k l0 l1 t462 t465 t466 t469 true))) else (gradinelaw21_SpreadTwo.j0 k l0 l1 t462 t465 t466 t469 true)) else (gradinelaw21_SpreadTwo.j0 k l0 l1 t462 t465 t466 t469 false)) = some true := H
  have A9 := Aside0.mk A90
  clear A90
  have HC10 := Aside0.mk H
  clear H
  go_enter Try.func9, Try.ntmps9
  go_upto_region 6 with (first | ((with_reducible refine gate_callee (f := 13) rfl ?_); refine goesL_ (some 13) rfl rfl Try.func13 (by kernel_rfl) rfl #[.slice A0 l0.length c0, .slice A1 l1.length c1] rfl pA ?_; (with_reducible refine (gradinelaw19_Many.calls _ _ l0 _ _ l1 false _ ?side1 ?side2 ?side3 ?side4 A3.out).mono ?_); (case side1 => exact pC HR0.out); (case side2 => exact HC0.out); (case side3 => exact pC HR1.out); (case side4 => exact HC1.out); rintro e w' ⟨rfl, ⟨nd, rfl⟩⟩; refine ⟨_, rfl, ?_⟩) | ((with_reducible refine gate_callee (f := 37) rfl ?_); refine goesL_ (some 18) rfl rfl Try.func37 (by kernel_rfl) rfl #[.slice A0 l0.length c0, .slice A1 l1.length c1] rfl pA ?_; (with_reducible refine (spread_Two.calls k (fun k_ => k_ < w.heap.size) _ _ l0 (fun k_ => k_ < w.heap.size) _ _ l1 t462 t465 _ ?side1 ?side2 A7.out).mono ?_); (case side1 => exact Kd.V_mk HC0.out (Kd.F_below (Kd.C_F (Kd.heap_int .i64) HR0.out) (pB HB.out))); (case side2 => exact Kd.V_mk HC1.out (Kd.F_below (Kd.C_F (Kd.heap_int .i64) HR1.out) (pB HB.out))); rintro e w11 ⟨v463, rfl, ho0, hb⟩; refine ⟨_, rfl, ?_⟩; have n0_ := Aside0.mk (Kd.R_lower (Kd.R_mono (ok' := fun k_ => True) ho0 (fun _ hk_ => trivial)) (below_size (pB HB.out))); have n1_ := Aside0.mk (below_step (pB HB.out) hb); clear HB; have HO464 := n0_; have HB := n1_; clear n0_ n1_; (try clear hb); (try clear hb2); (try clear hk); (try clear hi); (try clear ho0)) | ((with_reducible refine gate_callee (f := 38) rfl ?_); refine goesL_ (some 24) rfl rfl Try.func38 (by kernel_rfl) rfl #[.slice A0 l0.length c0, .slice A1 l1.length c1] rfl pA ?_; (with_reducible refine (gradineref21_Two.calls k (fun k_ => k_ < w.heap.size) _ _ l0 (fun k_ => k_ < w.heap.size) _ _ l1 t466 t469 _ ?side1 ?side2 A8.out).mono ?_); (case side1 => exact Kd.V_mk HC0.out (Kd.F_below (Kd.C_F (Kd.heap_int .i64) HR0.out) (pB HB.out))); (case side2 => exact Kd.V_mk HC1.out (Kd.F_below (Kd.C_F (Kd.heap_int .i64) HR1.out) (pB HB.out))); rintro e w12 ⟨v467, rfl, ho0, hb⟩; refine ⟨_, rfl, ?_⟩; have n0_ := Aside0.mk (Kd.R_elder' (pR HO464.out) (Kd.R_base ho0) hb); have n1_ := Aside0.mk (Kd.R_lower (Kd.R_new' (Kd.R_mono (ok' := fun k_ => True) ho0 (fun _ hk_ => trivial)) (Kd.R_lt (pR HO464.out))) (below_size (pB HB.out))); have n2_ := Aside0.mk (below_step (pB HB.out) hb); clear HO464; clear HB; have HO464 := n0_; have HO468 := n1_; have HB := n2_; clear n0_ n1_ n2_; (try clear hb); (try clear hb2); (try clear hk); (try clear hi); (try clear ho0)) | ((with_reducible refine gate_callee (f := 37) rfl ?_); refine goesL_ (some 30) rfl rfl Try.func37 (by kernel_rfl) rfl #[.slice A1 l1.length c1, .slice A0 l0.length c0] rfl pA ?_; (with_reducible refine (spread_Two.calls k (fun k_ => k_ < w.heap.size) _ _ l1 (fun k_ => k_ < w.heap.size) _ _ l0 t470 t473 _ ?side1 ?side2 A9.out).mono ?_); (case side1 => exact Kd.V_mk HC1.out (Kd.F_below (Kd.C_F (Kd.heap_int .i64) HR1.out) (pB HB.out))); (case side2 => exact Kd.V_mk HC0.out (Kd.F_below (Kd.C_F (Kd.heap_int .i64) HR0.out) (pB HB.out))); rintro e w13 ⟨v471, rfl, ho0, hb⟩; refine ⟨_, rfl, ?_⟩; have n0_ := Aside0.mk (Kd.R_elder' (pR HO464.out) (Kd.R_base ho0) hb); have n1_ := Aside0.mk (Kd.R_elder' (pR HO468.out) (Kd.R_base ho0) hb); have n2_ := Aside0.mk (Kd.R_lower (Kd.R_new' (Kd.R_new' (Kd.R_mono (ok' := fun k_ => True) ho0 (fun _ hk_ => trivial)) (Kd.R_lt (pR HO464.out))) (Kd.R_lt (pR HO468.out))) (below_size (pB HB.out))); have n3_ := Aside0.mk (below_step (pB HB.out) hb); clear HO464; clear HO468; clear HB; have HO464 := n0_; have HO468 := n1_; have HO472 := n2_; have HB := n3_; clear n0_ n1_ n2_ n3_; (try clear hb); (try clear hb2); (try clear hk); (try clear hi); (try clear ho0)))
  (try simp only [Act.put, List.setIfInBounds_toArray, List.set_cons_zero, List.set_cons_succ])
  go_cut [56] (fun v56 wc => ∃ (kq : Nat) (x56_9 : Bool), v56 = .bool x56_9 ∧ Aside0 (gradinelaw21_SpreadTwo.j0 kq l0 l1 t462 t465 t466 t469 x56_9 = some true) ∧ Aside0 (kq ≤ k) ∧ Aside0 (Kd.R (Kd.int .i64) 3 wc w.heap.size (fun k_ => some k_ ≠ (v467 : Value).ownBlock) v463 t462) ∧ Aside0 (Kd.R (Kd.int .i64) 3 wc w.heap.size (fun k_ => some k_ ≠ (v463 : Value).ownBlock) v467 t466) ∧ Aside0 (Below w.heap.size w wc))
  case first =>
   have H := HC10.out
   clear HC10
   by_cases c14 : t465 = 0
   ·rw [if_pos c14] at H
    have c14b0 : (t465 == 0) = true := beq_iff_eq.mpr c14
    have c14b1 : (t465 != 0) = false := bne_eq_false_iff_eq.mpr c14
    clear c14
    (first | rw [c14b0] | (simp only [i64_w, i32_w]; rw [c14b0]) | skip)
    by_cases c15 : t473 = 0
    ·rw [if_pos c15] at H
     have c15b0 : (t473 == 0) = true := beq_iff_eq.mpr c15
     have c15b1 : (t473 != 0) = false := bne_eq_false_iff_eq.mpr c15
     clear c15
     replace H := Option.bind_eq_some_iff.mp H
     obtain ⟨t474, A160, H⟩ := H
     replace H : (if t474 = true then ((spread_Fits.f k l0 t462).bind fun t475 => (if t475 = true then ((spread_Fits.f k l1 t462).bind fun t476 => (gradinelaw21_SpreadTwo.j0 k l0 l1 t462 t465 t466 t469 (!t476))) else (gradinelaw21_SpreadTwo.j0 k l0 l1 t462 t465 t466 t469 true))) else (gradinelaw21_SpreadTwo.j0 k l0 l1 t462 t465 t466 t469 true)) = some true := H
     have A16 := Aside0.mk A160
     clear A160
     by_cases c17 : t474 = true
     ·subst c17
      have H1 : ((spread_Fits.f k l0 t462).bind fun t475 => (if t475 = true then ((spread_Fits.f k l1 t462).bind fun t476 => (gradinelaw21_SpreadTwo.j0 k l0 l1 t462 t465 t466 t469 (!t476))) else (gradinelaw21_SpreadTwo.j0 k l0 l1 t462 t465 t466 t469 true))) = some true := by rw [if_pos rfl] at H; exact H
      clear H
      have H := H1
      clear H1
      replace H := Option.bind_eq_some_iff.mp H
      obtain ⟨t475, A180, H⟩ := H
      replace H : (if t475 = true then ((spread_Fits.f k l1 t462).bind fun t476 => (gradinelaw21_SpreadTwo.j0 k l0 l1 t462 t465 t466 t469 (!t476))) else (gradinelaw21_SpreadTwo.j0 k l0 l1 t462 t465 t466 t469 true)) = some true := H
      have A18 := Aside0.mk A180
      clear A180
      by_cases c19 : t475 = true
      ·subst c19
       have H1 : ((spread_Fits.f k l1 t462).bind fun t476 => (gradinelaw21_SpreadTwo.j0 k l0 l1 t462 t465 t466 t469 (!t476))) = some true := by rw [if_pos rfl] at H; exact H
       clear H
       have H := H1
       clear H1
       replace H := Option.bind_eq_some_iff.mp H
       obtain ⟨t476, A200, H⟩ := H
       replace H : (gradinelaw21_SpreadTwo.j0 k l0 l1 t462 t465 t466 t469 (!t476)) = some true := H
       have A20 := Aside0.mk A200
       clear A200
       have H' := Aside0.mk H
       clear H
       obtain ⟨Ao21, co21, eo21⟩ := Kd.R_slice HO464.out
       subst eo21
       obtain ⟨Ao22, co22, eo22⟩ := Kd.R_slice HO472.out
       subst eo22
       go_wp2_with (first | (go_at_call 19; (with_reducible refine (gradineplain_Ints.calls k _ _ t462 _ _ t470 true _ ?side1 ?side2 ?side3 ?side4 A16.out).mono ?_); (case side1 => exact pC (Kd.R_reads' HO464.out).2.2); (case side2 => exact (Kd.R_reads' HO464.out).2.1); (case side3 => exact pC (Kd.R_reads' HO472.out).2.2); (case side4 => exact (Kd.R_reads' HO472.out).2.1); rintro e w' ⟨rfl, ⟨nd, rfl⟩⟩) | (go_at_call 39; (with_reducible refine (spread_Fits.calls k _ _ l0 _ _ t462 true _ ?side1 ?side2 ?side3 ?side4 A18.out).mono ?_); (case side1 => exact pC (Kd.C_below HR0.out (pB HB.out))); (case side2 => exact HC0.out); (case side3 => exact pC (Kd.R_reads' HO464.out).2.2); (case side4 => exact (Kd.R_reads' HO464.out).2.1); rintro e w23 ⟨rfl, hb⟩; have n0_ := Aside0.mk (Kd.R_below (pR HO464.out) hb); have n1_ := Aside0.mk (Kd.R_below (pR HO468.out) hb); have n2_ := Aside0.mk (Kd.R_below (pR HO472.out) hb); have n3_ := Aside0.mk (below_step (pB HB.out) hb); clear HO464; clear HO468; clear HO472; clear HB; have HO464 := n0_; have HO468 := n1_; have HO472 := n2_; have HB := n3_; clear n0_ n1_ n2_ n3_; (try clear hb); (try clear hb2); (try clear hk); (try clear hi)) | (go_at_call 39; (with_reducible refine (spread_Fits.calls k _ _ l1 _ _ t462 t476 _ ?side1 ?side2 ?side3 ?side4 A20.out).mono ?_); (case side1 => exact pC (Kd.C_below HR1.out HB.out)); (case side2 => exact HC1.out); (case side3 => exact pC (Kd.R_reads' HO464.out).2.2); (case side4 => exact (Kd.R_reads' HO464.out).2.1); rintro e w24 ⟨rfl, hb⟩; have n0_ := Aside0.mk (Kd.R_below (pR HO464.out) hb); have n1_ := Aside0.mk (Kd.R_below (pR HO468.out) hb); have n2_ := Aside0.mk (Kd.R_below (pR HO472.out) hb); have n3_ := Aside0.mk (below_step (pB HB.out) hb); clear HO464; clear HO468; clear HO472; clear HB; have HO464 := n0_; have HO468 := n1_; have HO472 := n2_; have HB := n3_; clear n0_ n1_ n2_ n3_; (try clear hb); (try clear hb2); (try clear hk); (try clear hi)))
       go_meet
       case rel => exact ⟨_, (!t476), (by first | rfl | (simp; done) | (simp [*]; done)), H', ⟨by first | omega | exact Nat.le_refl _⟩, ⟨by (with_reducible repeat (first | apply Kd.R_alloc | apply Kd.R_drewN | apply Kd.R_drew)); exact Kd.R_mono HO464.out (fun _ hk => hk.1.2)⟩, ⟨by (with_reducible repeat (first | apply Kd.R_alloc | apply Kd.R_drewN | apply Kd.R_drew)); exact Kd.R_mono HO468.out (fun _ hk => hk.1.2)⟩, ⟨pB HB.out⟩⟩
      ·replace c19 := Bool.eq_false_iff.mpr c19
       subst c19
       have H1 : (gradinelaw21_SpreadTwo.j0 k l0 l1 t462 t465 t466 t469 true) = some true := by rw [if_neg (show ¬ (false = true) by decide)] at H; exact H
       clear H
       have H := H1
       clear H1
       have H' := Aside0.mk H
       clear H
       obtain ⟨Ao25, co25, eo25⟩ := Kd.R_slice HO464.out
       subst eo25
       obtain ⟨Ao26, co26, eo26⟩ := Kd.R_slice HO472.out
       subst eo26
       go_wp2_with (first | (go_at_call 19; (with_reducible refine (gradineplain_Ints.calls k _ _ t462 _ _ t470 true _ ?side1 ?side2 ?side3 ?side4 A16.out).mono ?_); (case side1 => exact pC (Kd.R_reads' HO464.out).2.2); (case side2 => exact (Kd.R_reads' HO464.out).2.1); (case side3 => exact pC (Kd.R_reads' HO472.out).2.2); (case side4 => exact (Kd.R_reads' HO472.out).2.1); rintro e w' ⟨rfl, ⟨nd, rfl⟩⟩) | (go_at_call 39; (with_reducible refine (spread_Fits.calls k _ _ l0 _ _ t462 false _ ?side1 ?side2 ?side3 ?side4 A18.out).mono ?_); (case side1 => exact pC (Kd.C_below HR0.out (pB HB.out))); (case side2 => exact HC0.out); (case side3 => exact pC (Kd.R_reads' HO464.out).2.2); (case side4 => exact (Kd.R_reads' HO464.out).2.1); rintro e w27 ⟨rfl, hb⟩; have n0_ := Aside0.mk (Kd.R_below (pR HO464.out) hb); have n1_ := Aside0.mk (Kd.R_below (pR HO468.out) hb); have n2_ := Aside0.mk (Kd.R_below (pR HO472.out) hb); have n3_ := Aside0.mk (below_step (pB HB.out) hb); clear HO464; clear HO468; clear HO472; clear HB; have HO464 := n0_; have HO468 := n1_; have HO472 := n2_; have HB := n3_; clear n0_ n1_ n2_ n3_; (try clear hb); (try clear hb2); (try clear hk); (try clear hi)))
       go_meet
       case rel => exact ⟨_, (true), (by first | rfl | (simp; done) | (simp [*]; done)), H', ⟨by first | omega | exact Nat.le_refl _⟩, ⟨by (with_reducible repeat (first | apply Kd.R_alloc | apply Kd.R_drewN | apply Kd.R_drew)); exact Kd.R_mono HO464.out (fun _ hk => hk.1.2)⟩, ⟨by (with_reducible repeat (first | apply Kd.R_alloc | apply Kd.R_drewN | apply Kd.R_drew)); exact Kd.R_mono HO468.out (fun _ hk => hk.1.2)⟩, ⟨pB HB.out⟩⟩
     ·replace c17 := Bool.eq_false_iff.mpr c17
      subst c17
      have H1 : (gradinelaw21_SpreadTwo.j0 k l0 l1 t462 t465 t466 t469 true) = some true := by rw [if_neg (show ¬ (false = true) by decide)] at H; exact H
      clear H
      have H := H1
      clear H1
      have H' := Aside0.mk H
      clear H
      obtain ⟨Ao28, co28, eo28⟩ := Kd.R_slice HO464.out
      subst eo28
      obtain ⟨Ao29, co29, eo29⟩ := Kd.R_slice HO472.out
      subst eo29
      go_wp2_with (first | (go_at_call 19; (with_reducible refine (gradineplain_Ints.calls k _ _ t462 _ _ t470 false _ ?side1 ?side2 ?side3 ?side4 A16.out).mono ?_); (case side1 => exact pC (Kd.R_reads' HO464.out).2.2); (case side2 => exact (Kd.R_reads' HO464.out).2.1); (case side3 => exact pC (Kd.R_reads' HO472.out).2.2); (case side4 => exact (Kd.R_reads' HO472.out).2.1); rintro e w' ⟨rfl, ⟨nd, rfl⟩⟩))
      go_meet
      case rel => exact ⟨_, (true), (by first | rfl | (simp; done) | (simp [*]; done)), H', ⟨by first | omega | exact Nat.le_refl _⟩, ⟨by (with_reducible repeat (first | apply Kd.R_alloc | apply Kd.R_drewN | apply Kd.R_drew)); exact Kd.R_mono HO464.out (fun _ hk => hk.1.2)⟩, ⟨by (with_reducible repeat (first | apply Kd.R_alloc | apply Kd.R_drewN | apply Kd.R_drew)); exact Kd.R_mono HO468.out (fun _ hk => hk.1.2)⟩, ⟨pB HB.out⟩⟩
    ·rw [if_neg c15] at H
     have c15b0 : (t473 == 0) = false := beq_eq_false_iff_ne.mpr c15
     have c15b1 : (t473 != 0) = true := bne_iff_ne.mpr c15
     have H' := Aside0.mk H
     clear H
     go_wp2
     go_meet
     case rel => exact ⟨_, (true), (by first | rfl | (simp; done) | (simp [*]; done)), H', ⟨by first | omega | exact Nat.le_refl _⟩, ⟨by (with_reducible repeat (first | apply Kd.R_alloc | apply Kd.R_drewN | apply Kd.R_drew)); exact Kd.R_mono HO464.out (fun _ hk => hk.1.2)⟩, ⟨by (with_reducible repeat (first | apply Kd.R_alloc | apply Kd.R_drewN | apply Kd.R_drew)); exact Kd.R_mono HO468.out (fun _ hk => hk.1.2)⟩, ⟨pB HB.out⟩⟩
   ·rw [if_neg c14] at H
    have c14b0 : (t465 == 0) = false := beq_eq_false_iff_ne.mpr c14
    have c14b1 : (t465 != 0) = true := bne_iff_ne.mpr c14
    (first | rw [c14b0] | (simp only [i64_w, i32_w]; rw [c14b0]) | skip)
    have H' := Aside0.mk H
    clear H
    go_wp2
    go_meet
    case rel => exact ⟨_, (false), (by first | rfl | (simp; done) | (simp [*]; done)), H', ⟨by first | omega | exact Nat.le_refl _⟩, ⟨by (with_reducible repeat (first | apply Kd.R_alloc | apply Kd.R_drewN | apply Kd.R_drew)); exact Kd.R_mono HO464.out (fun _ hk => hk.1.2)⟩, ⟨by (with_reducible repeat (first | apply Kd.R_alloc | apply Kd.R_drewN | apply Kd.R_drew)); exact Kd.R_mono HO468.out (fun _ hk => hk.1.2)⟩, ⟨pB HB.out⟩⟩
  case rest =>
   clear HC10
   try clear c1
   try clear p2
   try clear c3
   try clear c4
   try clear c9
   try clear c13
   try clear c14
   try clear c14b0
   try clear c14b1
   try clear c15
   try clear c15b0
   try clear c15b1
   try clear c17
   try clear c19
   obtain ⟨kq, x56_9, rfl, HA, HJ9, HO_5, HO_7, HB⟩ := hcut
   cases kq with
   | zero => exact absurd HA.out (by simp [gradinelaw21_SpreadTwo.j0])
   | succ kj9 =>
    have H := HA.out
    clear HA
    simp only [gradinelaw21_SpreadTwo.j0] at H
    by_cases c30 : x56_9 = true
    ·subst c30
     have H1 : (some false) = some true := by rw [if_pos rfl] at H; exact H
     clear H
     have H := H1
     clear H1
     exact absurd H (by simp)
    ·replace c30 := Bool.eq_false_iff.mpr c30
     subst c30
     have H1 : (if t465 = t469 then ((gradineplain_Ints.f kj9 t462 t466).bind fun t477 => (if t477 = true then ((spread_Fits.f kj9 l0 l1).bind fun t478 => ((gradineref21_Fits.f kj9 l0 l1).bind fun t479 => (if (t478 == t479) = true then ((gradinelaw21_same.f kj9).bind fun t480 => (some t480)) else (some false)))) else (some false))) else (some false)) = some true := by rw [if_neg (show ¬ (false = true) by decide)] at H; exact H
     clear H
     have H := H1
     clear H1
     by_cases c31 : t465 = t469
     ·rw [if_pos c31] at H
      have c31b0 : (t465 == t469) = true := beq_iff_eq.mpr c31
      have c31b1 : (t465 != t469) = false := bne_eq_false_iff_eq.mpr c31
      clear c31
      replace H := Option.bind_eq_some_iff.mp H
      obtain ⟨t477, A320, H⟩ := H
      replace H : (if t477 = true then ((spread_Fits.f kj9 l0 l1).bind fun t478 => ((gradineref21_Fits.f kj9 l0 l1).bind fun t479 => (if (t478 == t479) = true then ((gradinelaw21_same.f kj9).bind fun t480 => (some t480)) else (some false)))) else (some false)) = some true := H
      have A32 := Aside0.mk A320
      clear A320
      by_cases c33 : t477 = true
      ·subst c33
       have H1 : ((spread_Fits.f kj9 l0 l1).bind fun t478 => ((gradineref21_Fits.f kj9 l0 l1).bind fun t479 => (if (t478 == t479) = true then ((gradinelaw21_same.f kj9).bind fun t480 => (some t480)) else (some false)))) = some true := by rw [if_pos rfl] at H; exact H
       clear H
       have H := H1
       clear H1
       replace H := Option.bind_eq_some_iff.mp H
       obtain ⟨t478, A340, H⟩ := H
       replace H : ((gradineref21_Fits.f kj9 l0 l1).bind fun t479 => (if (t478 == t479) = true then ((gradinelaw21_same.f kj9).bind fun t480 => (some t480)) else (some false))) = some true := H
       have A34 := Aside0.mk A340
       clear A340
       replace H := Option.bind_eq_some_iff.mp H
       obtain ⟨t479, A350, H⟩ := H
       replace H : (if (t478 == t479) = true then ((gradinelaw21_same.f kj9).bind fun t480 => (some t480)) else (some false)) = some true := H
       have A35 := Aside0.mk A350
       clear A350
       by_cases c36 : (t478 == t479) = true
       ·rw [if_pos c36] at H
        have c36b0 : (t478 == t479) = true := c36
        (try (have c36b1 : decide (t478 = t479) = true := by simpa using c36))
        (try (have c36b2 : (t478 == t479) = true := by simpa using c36))
        clear c36
        replace H := Option.bind_eq_some_iff.mp H
        obtain ⟨t480, A370, H⟩ := H
        replace H : (some t480) = some true := H
        have A37 := Aside0.mk A370
        clear A370
        have hv_ := Aside0.mk (Option.some.inj H)
        clear H
        obtain ⟨Ao38, co38, eo38⟩ := Kd.R_slice HO_5.out
        subst eo38
        obtain ⟨Ao39, co39, eo39⟩ := Kd.R_slice HO_7.out
        subst eo39
        go_wp2_with (first | (go_at_call 19; (with_reducible refine (gradineplain_Ints.calls kj9 _ _ t462 _ _ t466 true _ ?side1 ?side2 ?side3 ?side4 A32.out).mono ?_); (case side1 => exact pC (Kd.R_reads' HO_5.out).2.2); (case side2 => exact (Kd.R_reads' HO_5.out).2.1); (case side3 => exact pC (Kd.R_reads' HO_7.out).2.2); (case side4 => exact (Kd.R_reads' HO_7.out).2.1); rintro e w' ⟨rfl, ⟨nd, rfl⟩⟩) | (go_at_call 39; (with_reducible refine (spread_Fits.calls kj9 _ _ l0 _ _ l1 t478 _ ?side1 ?side2 ?side3 ?side4 A34.out).mono ?_); (case side1 => exact pC (Kd.C_below HR0.out (pB HB.out))); (case side2 => exact HC0.out); (case side3 => exact pC (Kd.C_below HR1.out (pB HB.out))); (case side4 => exact HC1.out); rintro e w40 ⟨rfl, hb⟩; have n0_ := Aside0.mk (Kd.R_below (pR HO_5.out) hb); have n1_ := Aside0.mk (Kd.R_below (pR HO_7.out) hb); have n2_ := Aside0.mk (below_step (pB HB.out) hb); clear HO_5; clear HO_7; clear HB; have HO_5 := n0_; have HO_7 := n1_; have HB := n2_; clear n0_ n1_ n2_; (try clear hb); (try clear hb2); (try clear hk); (try clear hi)) | (go_at_call 40; (with_reducible refine (gradineref21_Fits.calls kj9 _ _ l0 _ _ l1 t479 _ ?side1 ?side2 ?side3 ?side4 A35.out).mono ?_); (case side1 => exact pC (Kd.C_below HR0.out HB.out)); (case side2 => exact HC0.out); (case side3 => exact pC (Kd.C_below HR1.out HB.out)); (case side4 => exact HC1.out); rintro e w41 ⟨rfl, hb⟩; have n0_ := Aside0.mk (Kd.R_below (pR HO_5.out) hb); have n1_ := Aside0.mk (Kd.R_below (pR HO_7.out) hb); have n2_ := Aside0.mk (below_step (pB HB.out) hb); clear HO_5; clear HO_7; clear HB; have HO_5 := n0_; have HO_7 := n1_; have HB := n2_; clear n0_ n1_ n2_; (try clear hb); (try clear hb2); (try clear hk); (try clear hi)) | (go_at_call 36; (with_reducible refine (gradinelaw21_same.calls kj9  t480 _ A37.out).mono ?_); rintro e w42 ⟨rfl, hb⟩; have n0_ := Aside0.mk (Kd.R_below (pR HO_5.out) hb); have n1_ := Aside0.mk (Kd.R_below (pR HO_7.out) hb); have n2_ := Aside0.mk (below_step (pB HB.out) hb); clear HO_5; clear HO_7; clear HB; have HO_5 := n0_; have HO_7 := n1_; have HB := n2_; clear n0_ n1_ n2_; (try clear hb); (try clear hb2); (try clear hk); (try clear hi)))
        go_ret
        replace hv_ := hv_.out
        exact ⟨by first | rfl | (simp [errW_none, errW_some] <;> rfl) | (simp [*, errW_none, errW_some] <;> rfl), pB HB.out⟩
       ·rw [if_neg c36] at H
        have c36b0 : (t478 == t479) = false := by simpa using c36
        (try (have c36b1 : decide (t478 = t479) = false := by simpa using c36))
        (try (have c36b2 : (t478 == t479) = false := by simpa using c36))
        (try (have c36b3 : ¬ (t478 = t479) := by simpa using c36))
        clear c36
        exact absurd H (by simp)
      ·replace c33 := Bool.eq_false_iff.mpr c33
       subst c33
       have H1 : (some false) = some true := by rw [if_neg (show ¬ (false = true) by decide)] at H; exact H
       clear H
       have H := H1
       clear H1
       exact absurd H (by simp)
     ·rw [if_neg c31] at H
      have c31b0 : (t465 == t469) = false := beq_eq_false_iff_ne.mpr c31
      have c31b1 : (t465 != t469) = true := bne_iff_ne.mpr c31
      exact absurd H (by simp)

/-- THE ONE PURE STATEMENT of gradinelaw21_SpreadTwo: yours. -/
def gradinelaw21_SpreadTwo.Pure : Prop := ∀ (l0 : List Int) (l1 : List Int), l0.length ≤ maxLen → l0.length * 8 ≤ 140737488351232 → (∀ x ∈ l0, (Lit.int .i64 x).wf = true) → l1.length ≤ maxLen → l1.length * 8 ≤ 140737488351232 → (∀ x ∈ l1, (Lit.int .i64 x).wf = true) → ∃ k, gradinelaw21_SpreadTwo.f k l0 l1 = some true
theorem gradinelaw21_SpreadTwo.walk (P : gradinelaw21_SpreadTwo.Pure) (a0 : Option Addr) (len0 cap0 : Nat) (z0 : List Int) (a1 : Option Addr) (len1 cap1 : Nat) (z1 : List Int) (w : World) (w0 : (a0 = none ∧ len0 = 0 ∧ cap0 = 0 ∧ z0 = []) ∨ ∃ x, a0 = some x ∧ len0 ≤ cap0 ∧ cap0 ≤ maxLen ∧ z0.length = cap0 ∧ (∀ i, i < z0.length → w.cell? (x.add i) = some (.int .i64 (z0.getD i 0))) ∧ ∀ n ∈ z0, (Lit.int .i64 n).wf = true) (y0 : len0 * 8 ≤ 140737488351232) (w1 : (a1 = none ∧ len1 = 0 ∧ cap1 = 0 ∧ z1 = []) ∨ ∃ x, a1 = some x ∧ len1 ≤ cap1 ∧ cap1 ≤ maxLen ∧ z1.length = cap1 ∧ (∀ i, i < z1.length → w.cell? (x.add i) = some (.int .i64 (z1.getD i 0))) ∧ ∀ n ∈ z1, (Lit.int .i64 n).wf = true) (y1 : len1 * 8 ≤ 140737488351232) :
  Calls Try.prog 9 #[.slice a0 len0 cap0, .slice a1 len1 cap1] w fun e w' => e = .returned (.bool true) ∧ Below w.heap.size w w' := by
 obtain ⟨l0, rfl, hr0, hm0, hw0, hc0⟩ := ReadsInt.ofRowC w0
 obtain ⟨l1, rfl, hr1, hm1, hw1, hc1⟩ := ReadsInt.ofRowC w1
 obtain ⟨k, h⟩ := P l0 l1 hm0 y0 hw0 hm1 y1 hw1
 refine (gradinelaw21_SpreadTwo.calls k _ _ l0 _ _ l1 w (Kd.C_of_reads (d := (0 : Int)) (h1 := fun _ => rfl) hr0) hc0 (Kd.C_of_reads (d := (0 : Int)) (h1 := fun _ => rfl) hr1) hc1 h).mono ?_
 rintro e w' ⟨rfl, hd⟩
 exact ⟨rfl, hd⟩

end Go.Proofs.Ytpoldofghcmfnaa.Q
