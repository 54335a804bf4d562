-- Written by this session's program wip/gprint.py, which drives the kit's print.py and puts the session's own texts in for some functions.
import Derived.Test.YtpoldofghcmfnaaQx0
import Derived.Test.YtpoldofghcmfnaaQxfLaw19Many
import Derived.Test.YtpoldofghcmfnaaQxfLaw21Same
import Derived.Test.YtpoldofghcmfnaaQxfPlainInts
import Derived.Test.YtpoldofghcmfnaaQxfRef21All
import Derived.Test.YtpoldofghcmfnaaQxfSpreadAll
namespace Go.Proofs.Ytpoldofghcmfnaa.Q
open Go.RowKit Go.Proofs.YtpoldofghcmfnaaW.PrintWords Go.Proofs.YtpoldofghcmfnaaW.PrintLast Go.Proofs.YtpoldofghcmfnaaW.PrintMore
attribute [local go_sem] max2_int min2_int max_two min_two max_three min_three max_four min_four   -- for this text's walks alone
set_option linter.unusedVariables false
set_option linter.unusedSimpArgs false

/-! ### gradinelaw21_SpreadMany: function 12 -/
def gradinelaw21_SpreadMany.l0 : Nat → List (List Int) → Int → Int → Option (Bool)
 | 0, _, _, _ => none
 | k + 1, x0, x13, x14 => if x14 < x13 then (if 0 ≤ x14 then (if x14 < (x0.length : Int) then ((gradinelaw19_Many.f (rd_L1 x0 x14) ([] : List Int)).bind fun t533 => (if t533 = true then ((gradinelaw21_same.f k).bind fun t534 => (some t534)) else (gradinelaw21_SpreadMany.l0 k x0 x13 (wrap64 (x14 + 1))))) else (none)) else (none)) else ((spread_All.f k x0).bind fun bt535 => ((gradineref21_All.f k x0).bind fun bt539 => (if bt535.2 = bt539.2 then ((gradineplain_Ints.f k bt535.1 bt539.1).bind fun t543 => (if t543 = true then ((gradinelaw21_same.f k).bind fun t544 => (some t544)) else (some false))) else (some false))))
def gradinelaw21_SpreadMany.f (k : Nat) (l0 : List (List Int)) : Option (Bool) := if (l0.length : Int) > 20 then ((gradinelaw21_same.f k).bind fun t531 => (some t531)) else (gradinelaw21_SpreadMany.l0 k l0 (l0.length : Int) 0)
set_option maxHeartbeats 8000000 in
set_option maxRecDepth 100000 in
theorem gradinelaw21_SpreadMany.calls (k : Nat) (A0 : Option Addr) (c0 : Nat) (l0 : List (List Int)) (w : World) (hr0 : Kd.C (Kd.slice 3 (Kd.int .i64)) w A0 l0.length l0) (hc0 : l0.length ≤ c0) (h : gradinelaw21_SpreadMany.f k l0 = some true) :
  Calls Try.prog 12 #[.slice A0 l0.length c0] w fun e w' => e = .returned (.bool true) ∧ Below w.heap.size w w' := by
 have HR0 := Aside0.mk hr0
 have HC0 := Aside0.mk hc0
 clear hr0 hc0
 have HB := Aside0.mk (Below.refl w.heap.size w)
 have H : (if (l0.length : Int) > 20 then ((gradinelaw21_same.f k).bind fun t531 => (some t531)) else (gradinelaw21_SpreadMany.l0 k l0 (l0.length : Int) 0)) = some true := h
 clear h
 by_cases c2 : (l0.length : Int) > 20
 ·rw [if_pos c2] at H
  have c2b0 : decide (20 < (l0.length : Int)) = true := decide_eq_true c2
  have c2b1 : decide (20 < l0.length) = true := decide_eq_true (by omega)
  clear c2
  replace H := Option.bind_eq_some_iff.mp H
  obtain ⟨t531, A30, H⟩ := H
  replace H : (some t531) = some true := H
  have A3 := Aside0.mk A30
  clear A30
  have hv_ := Aside0.mk (Option.some.inj H)
  clear H
  go_enter Try.func12, Try.ntmps12
  go_wp2_with (first | ((with_reducible refine gate_callee (f := 36) rfl ?_); refine goesL_ (some 11) rfl rfl Try.func36 (by kernel_rfl) rfl #[] rfl pA ?_; (with_reducible refine (gradinelaw21_same.calls k  t531 _ A3.out).mono ?_); rintro e w4 ⟨rfl, hb⟩; refine ⟨_, rfl, ?_⟩; have n0_ := Aside0.mk (below_step (pB HB.out) hb); clear HB; have HB := n0_; clear n0_; (try clear hb); (try clear hb2); (try clear hk); (try clear hi)))
  go_ret
  replace hv_ := hv_.out
  exact ⟨by first | rfl | (simp [errW_none, errW_some] <;> rfl) | (simp [*, errW_none, errW_some] <;> rfl), pB HB.out⟩
 ·rw [if_neg c2] at H
  have c2b0 : decide (20 < (l0.length : Int)) = false := decide_eq_false c2
  have c2b1 : decide (20 < l0.length) = false := decide_eq_false (by omega)
  clear c2
  have H' := Aside0.mk H
  clear H
  go_enter Try.func12, Try.ntmps12
  go_wp2
  go_loopg [14] k (fun kq v14 w' => ∃ (x14_1 : Int), v14 = .int .i64 x14_1 ∧ Aside0 (gradinelaw21_SpreadMany.l0 kq l0 (l0.length : Int) x14_1 = some true) ∧ Aside0 (kq ≤ k) ∧ Aside0 (Below w.heap.size w w'))
  case atStart => exact ⟨(0), (by first | rfl | (simp; done) | (simp [*]; done)), H', ⟨Nat.le_refl _⟩, ⟨pB HB.out⟩⟩
  case round =>
   clear H'
   try clear c1
   try clear c2
   try clear c2b0
   try clear c2b1
   try clear p2
   try clear c3
   obtain ⟨x14_1, rfl, HA, HK1, HB⟩ := hrel
   cases gk with
   | zero => exact absurd HA.out (by simp [gradinelaw21_SpreadMany.l0])
   | succ k1 =>
    have H := HA.out
    clear HA
    simp only [gradinelaw21_SpreadMany.l0] at H
    by_cases c5 : x14_1 < (l0.length : Int)
    ·rw [if_pos c5] at H
     have c5b0 : decide (x14_1 < (l0.length : Int)) = true := decide_eq_true c5
     clear c5
     by_cases c6 : 0 ≤ x14_1
     ·rw [if_pos c6] at H
      have c6b0 : decide (0 ≤ x14_1) = true := decide_eq_true c6
      clear c6
      by_cases c7 : x14_1 < (l0.length : Int)
      ·rw [if_pos c7] at H
       have c7b0 : decide (x14_1 < (l0.length : Int)) = true := decide_eq_true c7
       clear c7
       replace H := Option.bind_eq_some_iff.mp H
       obtain ⟨t533, A80, H⟩ := H
       replace H : (if t533 = true then ((gradinelaw21_same.f k1).bind fun t534 => (some t534)) else (gradinelaw21_SpreadMany.l0 k1 l0 (l0.length : Int) (wrap64 (x14_1 + 1)))) = some true := H
       have A8 := Aside0.mk A80
       clear A80
       by_cases c9 : t533 = true
       ·subst c9
        have H1 : ((gradinelaw21_same.f k1).bind fun t534 => (some t534)) = some true := by rw [if_pos rfl] at H; exact H
        clear H
        have H := H1
        clear H1
        replace H := Option.bind_eq_some_iff.mp H
        obtain ⟨t534, A100, H⟩ := H
        replace H : (some t534) = some true := H
        have A10 := Aside0.mk A100
        clear A100
        have hv_ := Aside0.mk (Option.some.inj H)
        clear H
        have p532 : 0 ≤ (x14_1 : Int) := of_decide_eq_true pD
        have q532 : x14_1 < (l0.length : Int) := of_decide_eq_true pD
        obtain ⟨ad532, A532_0, c532_0, e532, hx532_0, hl532_0, hi532_0⟩ := at_L1 HR0.out x14_1 p532 q532
        cases e532
        replace hx532_0 := (HB.out.cell (World.block_lt_of_cell? w _ hx532_0)).trans hx532_0
        have HR532_0 := Aside0.mk hi532_0
        have HC532_0 := Aside0.mk hl532_0
        clear hi532_0 hl532_0
        replace p532 := eq_true p532
        replace q532 := eq_true q532
        go_wp2_with (first | ((with_reducible refine gate_callee (f := 13) rfl ?_); refine goesL_ (some 21) rfl rfl Try.func13 (by kernel_rfl) rfl #[.slice A532_0 (rd_L1 l0 x14_1).length c532_0, .slice none 0 0] rfl pA ?_; (refine (gradinelaw19_Many.calls _ _ (rd_L1 l0 x14_1) _ _ ([] : List Int) true _ ?side1 ?side2 ?side3 ?side4 A8.out).mono ?_); (case side1 => exact pC (Kd.C_below HR532_0.out HB.out)); (case side2 => exact HC532_0.out); (case side3 => exact Kd.C_nil _ _); (case side4 => exact Nat.le_refl _); rintro e w' ⟨rfl, ⟨nd, rfl⟩⟩; refine ⟨_, rfl, ?_⟩) | ((with_reducible refine gate_callee (f := 36) rfl ?_); refine goesL_ (some 22) rfl rfl Try.func36 (by kernel_rfl) rfl #[] rfl pA ?_; (with_reducible refine (gradinelaw21_same.calls k1  t534 _ A10.out).mono ?_); rintro e w11 ⟨rfl, hb⟩; refine ⟨_, rfl, ?_⟩; have n0_ := Aside0.mk (below_step (pB HB.out) hb); clear HB; have HB := n0_; clear n0_; (try clear hb); (try clear hb2); (try clear hk); (try clear hi)))
        go_ret
        replace hv_ := hv_.out
        exact ⟨by first | rfl | (simp [errW_none, errW_some] <;> rfl) | (simp [*, errW_none, errW_some] <;> rfl), pB HB.out⟩
       ·replace c9 := Bool.eq_false_iff.mpr c9
        subst c9
        have H1 : (gradinelaw21_SpreadMany.l0 k1 l0 (l0.length : Int) (wrap64 (x14_1 + 1))) = some true := by rw [if_neg (show ¬ (false = true) by decide)] at H; exact H
        clear H
        have H := H1
        clear H1
        have H' := Aside0.mk H
        clear H
        have p532 : 0 ≤ (x14_1 : Int) := of_decide_eq_true pD
        have q532 : x14_1 < (l0.length : Int) := of_decide_eq_true pD
        obtain ⟨ad532, A532_0, c532_0, e532, hx532_0, hl532_0, hi532_0⟩ := at_L1 HR0.out x14_1 p532 q532
        cases e532
        replace hx532_0 := (HB.out.cell (World.block_lt_of_cell? w _ hx532_0)).trans hx532_0
        have HR532_0 := Aside0.mk hi532_0
        have HC532_0 := Aside0.mk hl532_0
        clear hi532_0 hl532_0
        replace p532 := eq_true p532
        replace q532 := eq_true q532
        go_wp2_with (first | ((with_reducible refine gate_callee (f := 13) rfl ?_); refine goesL_ (some 21) rfl rfl Try.func13 (by kernel_rfl) rfl #[.slice A532_0 (rd_L1 l0 x14_1).length c532_0, .slice none 0 0] rfl pA ?_; (refine (gradinelaw19_Many.calls _ _ (rd_L1 l0 x14_1) _ _ ([] : List Int) false _ ?side1 ?side2 ?side3 ?side4 A8.out).mono ?_); (case side1 => exact pC (Kd.C_below HR532_0.out HB.out)); (case side2 => exact HC532_0.out); (case side3 => exact Kd.C_nil _ _); (case side4 => exact Nat.le_refl _); rintro e w' ⟨rfl, ⟨nd, rfl⟩⟩; refine ⟨_, rfl, ?_⟩))
        go_roundg k1
        case measure => have := HK1.out; omega
        case rel => exact ⟨(wrap64 (x14_1 + 1)), (by first | rfl | (simp; done) | (simp [*]; done)), H', ⟨by have := HK1.out; omega⟩, ⟨pB HB.out⟩⟩
      ·rw [if_neg c7] at H
       exact absurd H (by simp)
     ·rw [if_neg c6] at H
      exact absurd H (by simp)
    ·rw [if_neg c5] at H
     have c5b0 : decide (x14_1 < (l0.length : Int)) = false := decide_eq_false c5
     clear c5
     replace H := Option.bind_eq_some_iff.mp H
     obtain ⟨⟨t535, t536⟩, A120, H⟩ := H
     replace H : ((gradineref21_All.f k1 l0).bind fun bt539 => (if t536 = bt539.2 then ((gradineplain_Ints.f k1 t535 bt539.1).bind fun t543 => (if t543 = true then ((gradinelaw21_same.f k1).bind fun t544 => (some t544)) else (some false))) else (some false))) = some true := H
     have A12 := Aside0.mk A120
     clear A120
     replace H := Option.bind_eq_some_iff.mp H
     obtain ⟨⟨t539, t540⟩, A130, H⟩ := H
     replace H : (if t536 = t540 then ((gradineplain_Ints.f k1 t535 t539).bind fun t543 => (if t543 = true then ((gradinelaw21_same.f k1).bind fun t544 => (some t544)) else (some false))) else (some false)) = some true := H
     have A13 := Aside0.mk A130
     clear A130
     by_cases c14 : t536 = t540
     ·rw [if_pos c14] at H
      have c14b0 : (t536 == t540) = true := beq_iff_eq.mpr c14
      have c14b1 : (t536 != t540) = false := bne_eq_false_iff_eq.mpr c14
      clear c14
      replace H := Option.bind_eq_some_iff.mp H
      obtain ⟨t543, A150, H⟩ := H
      replace H : (if t543 = true then ((gradinelaw21_same.f k1).bind fun t544 => (some t544)) else (some false)) = some true := H
      have A15 := Aside0.mk A150
      clear A150
      by_cases c16 : t543 = true
      ·subst c16
       have H1 : ((gradinelaw21_same.f k1).bind fun t544 => (some t544)) = some true := by rw [if_pos rfl] at H; exact H
       clear H
       have H := H1
       clear H1
       replace H := Option.bind_eq_some_iff.mp H
       obtain ⟨t544, A170, H⟩ := H
       replace H : (some t544) = some true := H
       have A17 := Aside0.mk A170
       clear A170
       have hv_ := Aside0.mk (Option.some.inj H)
       clear H
       go_wp2_with (first | ((with_reducible refine gate_callee (f := 44) rfl ?_); refine goesL_ (some 26) rfl rfl Try.func44 (by kernel_rfl) rfl #[.slice A0 l0.length c0] rfl pA ?_; (with_reducible refine (spread_All.calls k1 _ _ l0 t535 t536 _ ?side1 ?side2 A12.out).mono ?_); (case side1 => exact pC (Kd.C_below HR0.out HB.out)); (case side2 => exact HC0.out); rintro e w18 ⟨v537, rfl, ho0, hb⟩; refine ⟨_, rfl, ?_⟩; have n0_ := Aside0.mk (Kd.R_lower ho0 (below_size (pB HB.out))); have n1_ := Aside0.mk (below_step (pB HB.out) hb); clear HB; have HO538 := n0_; have HB := n1_; clear n0_ n1_; (try clear hb); (try clear hb2); (try clear hk); (try clear hi); (try clear ho0)) | ((with_reducible refine gate_callee (f := 45) rfl ?_); refine goesL_ (some 31) rfl rfl Try.func45 (by kernel_rfl) rfl #[.slice A0 l0.length c0] rfl pA ?_; (with_reducible refine (gradineref21_All.calls k1 _ _ l0 t539 t540 _ ?side1 ?side2 A13.out).mono ?_); (case side1 => exact pC (Kd.C_below HR0.out HB.out)); (case side2 => exact HC0.out); rintro e w19 ⟨v541, rfl, ho0, hb⟩; refine ⟨_, rfl, ?_⟩; have n0_ := Aside0.mk (Kd.R_elder' (pR HO538.out) (Kd.R_base ho0) hb); have n1_ := Aside0.mk (Kd.R_lower (Kd.R_new' ho0 (Kd.R_lt (pR HO538.out))) (below_size (pB HB.out))); have n2_ := Aside0.mk (below_step (pB HB.out) hb); clear HO538; clear HB; have HO538 := n0_; have HO542 := n1_; have HB := n2_; clear n0_ n1_ n2_; (try clear hb); (try clear hb2); (try clear hk); (try clear hi); (try clear ho0); obtain ⟨Ao20, co20, eo20⟩ := Kd.R_slice HO538.out; subst eo20; obtain ⟨Ao21, co21, eo21⟩ := Kd.R_slice HO542.out; subst eo21) | (go_at_call 19; (with_reducible refine (gradineplain_Ints.calls k1 _ _ t535 _ _ t539 true _ ?side1 ?side2 ?side3 ?side4 A15.out).mono ?_); (case side1 => exact pC (Kd.R_reads' HO538.out).2.2); (case side2 => exact (Kd.R_reads' HO538.out).2.1); (case side3 => exact pC (Kd.R_reads' HO542.out).2.2); (case side4 => exact (Kd.R_reads' HO542.out).2.1); rintro e w' ⟨rfl, ⟨nd, rfl⟩⟩) | (go_at_call 36; (with_reducible refine (gradinelaw21_same.calls k1  t544 _ A17.out).mono ?_); rintro e w22 ⟨rfl, hb⟩; have n0_ := Aside0.mk (Kd.R_below (pR HO538.out) hb); have n1_ := Aside0.mk (Kd.R_below (pR HO542.out) hb); have n2_ := Aside0.mk (below_step (pB HB.out) hb); clear HO538; clear HO542; clear HB; have HO538 := n0_; have HO542 := n1_; have HB := n2_; clear n0_ n1_ n2_; (try clear hb); (try clear hb2); (try clear hk); (try clear hi)))
       go_ret
       replace hv_ := hv_.out
       exact ⟨by first | rfl | (simp [errW_none, errW_some] <;> rfl) | (simp [*, errW_none, errW_some] <;> rfl), pB HB.out⟩
      ·replace c16 := Bool.eq_false_iff.mpr c16
       subst c16
       have H1 : (some false) = some true := by rw [if_neg (show ¬ (false = true) by decide)] at H; exact H
       clear H
       have H := H1
       clear H1
       exact absurd H (by simp)
     ·rw [if_neg c14] at H
      have c14b0 : (t536 == t540) = false := beq_eq_false_iff_ne.mpr c14
      have c14b1 : (t536 != t540) = true := bne_iff_ne.mpr c14
      exact absurd H (by simp)

end Go.Proofs.Ytpoldofghcmfnaa.Q
