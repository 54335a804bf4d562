-- Written by this session's program wip/gprint.py, which drives the kit's print.py and puts the session's own texts in for some functions.
import Derived.Test.YtpoldofghcmfnaaQx0
import Derived.Test.YtpoldofghcmfnaaQxfRef19Same
import Derived.Test.YtpoldofghcmfnaaQxfRef20All
namespace Go.Proofs.Ytpoldofghcmfnaa.Q
open Go.RowKit Go.Proofs.YtpoldofghcmfnaaW.PrintWords Go.Proofs.YtpoldofghcmfnaaW.PrintLast Go.Proofs.YtpoldofghcmfnaaW.PrintMore
attribute [local go_sem] max2_int min2_int max_two min_two max_three min_three max_four min_four   -- for this text's walks alone
set_option linter.unusedVariables false
set_option linter.unusedSimpArgs false

/-! ### gradineref20_Place: function 35 -/
def gradineref20_Place.l0 : Nat → List Int → List (List Int) → Int → Int → Option (Int)
 | 0, _, _, _, _ => none
 | k + 1, x1, x5, x10, x11 => if x11 < x10 then (if 0 ≤ x11 then (if x11 < (x5.length : Int) then ((gradineref19_Same.f k (rd_L1 x5 x11) x1).bind fun t373 => (if t373 = true then (some x11) else (gradineref20_Place.l0 k x1 x5 x10 (wrap64 (x11 + 1))))) else (none)) else (none)) else (some (-1))
def gradineref20_Place.f (k : Nat) (l0 : List Int) (l1 : List Int) : Option (Int) := (gradineref20_All.f k l0).bind fun t369 => (gradineref20_Place.l0 k l1 t369 (t369.length : Int) 0)
set_option maxHeartbeats 8000000 in
set_option maxRecDepth 100000 in
theorem gradineref20_Place.calls (k : Nat) (A0 : Option Addr) (c0 : Nat) (l0 : List Int) (A1 : Option Addr) (c1 : Nat) (l1 : List Int) (r : Int) (w : World) (hr0 : Kd.C (Kd.int .i64) w A0 l0.length l0) (hc0 : l0.length ≤ c0) (hr1 : Kd.C (Kd.int .i64) w A1 l1.length l1) (hc1 : l1.length ≤ c1) (h : gradineref20_Place.f k l0 l1 = some r) :
  Calls Try.prog 35 #[.slice A0 l0.length c0, .slice A1 l1.length c1] w fun e w' => e = .returned (.int .i64 r) ∧ Below w.heap.size w w' := by
 have HR0 := Aside0.mk hr0
 have HC0 := Aside0.mk hc0
 clear hr0 hc0
 have HR1 := Aside0.mk hr1
 have HC1 := Aside0.mk hc1
 clear hr1 hc1
 have HB := Aside0.mk (Below.refl w.heap.size w)
 have H : ((gradineref20_All.f k l0).bind fun t369 => (gradineref20_Place.l0 k l1 t369 (t369.length : Int) 0)) = some r := h
 clear h
 replace H := Option.bind_eq_some_iff.mp H
 obtain ⟨t369, A30, H⟩ := H
 replace H : (gradineref20_Place.l0 k l1 t369 (t369.length : Int) 0) = some r := H
 have A3 := Aside0.mk A30
 clear A30
 have H' := Aside0.mk H
 clear H
 go_enter Try.func35, Try.ntmps35
 go_wp2_with (first | ((with_reducible refine gate_callee (f := 30) rfl ?_); refine goesL_ (some 8) rfl rfl Try.func30 (by kernel_rfl) rfl #[.slice A0 l0.length c0] rfl pA ?_; (with_reducible refine (gradineref20_All.calls k _ _ l0 t369 _ ?side1 ?side2 A3.out).mono ?_); (case side1 => exact pC HR0.out); (case side2 => exact HC0.out); rintro e w4 ⟨v370, rfl, ho0, hb⟩; refine ⟨_, rfl, ?_⟩; have n0_ := Aside0.mk (Kd.N_lower (Kd.N_mono (ok' := fun k_ => True) ho0 (fun k_ hk_ => trivial)) (below_size (pB HB.out))); have n1_ := Aside0.mk (below_step (pB HB.out) hb); clear HB; have HO371 := n0_; have HB := n1_; clear n0_ n1_; (try clear hb); (try clear hb2); (try clear hk); (try clear hi); (try clear ho0); obtain ⟨Ao5, co5, eo5⟩ := Kd.N_slice HO371.out; subst eo5))
 go_loopg [11] k (fun kq v11 w' => ∃ (x11_1 : Int), v11 = .int .i64 x11_1 ∧ Aside0 (gradineref20_Place.l0 kq l1 t369 (t369.length : Int) x11_1 = some r) ∧ Aside0 (kq ≤ k) ∧ Aside0 (Kd.N (Kd.slice 3 (Kd.int .i64)) 22 w' w.heap.size (fun _ => True) (.slice Ao5 t369.length co5) t369) ∧ Aside0 (Below w.heap.size w w'))
 case atStart => exact ⟨(0), (pF), H', ⟨Nat.le_refl _⟩, ⟨by (with_reducible repeat (first | apply Kd.N_alloc | apply Kd.N_drewN | apply Kd.N_drew)); exact HO371.out⟩, ⟨pB HB.out⟩⟩
 case round =>
  clear H'
  try clear c1
  try clear p2
  try clear c3
  obtain ⟨x11_1, rfl, HA, HK1, HO_5, HB⟩ := hrel
  cases gk with
  | zero => exact absurd HA.out (by simp [gradineref20_Place.l0])
  | succ k1 =>
   have H := HA.out
   clear HA
   simp only [gradineref20_Place.l0] at H
   by_cases c6 : x11_1 < (t369.length : Int)
   ·rw [if_pos c6] at H
    have c6b0 : decide (x11_1 < (t369.length : Int)) = true := decide_eq_true c6
    clear c6
    by_cases c7 : 0 ≤ x11_1
    ·rw [if_pos c7] at H
     have c7b0 : decide (0 ≤ x11_1) = true := decide_eq_true c7
     clear c7
     by_cases c8 : x11_1 < (t369.length : Int)
     ·rw [if_pos c8] at H
      have c8b0 : decide (x11_1 < (t369.length : Int)) = true := decide_eq_true c8
      clear c8
      replace H := Option.bind_eq_some_iff.mp H
      obtain ⟨t373, A90, H⟩ := H
      replace H : (if t373 = true then (some x11_1) else (gradineref20_Place.l0 k1 l1 t369 (t369.length : Int) (wrap64 (x11_1 + 1)))) = some r := H
      have A9 := Aside0.mk A90
      clear A90
      by_cases c10 : t373 = true
      ·subst c10
       have H1 : (some x11_1) = some r := by rw [if_pos rfl] at H; exact H
       clear H
       have H := H1
       clear H1
       obtain rfl := Option.some.inj H
       have p372 : 0 ≤ (x11_1 : Int) := of_decide_eq_true pD
       have q372 : x11_1 < (t369.length : Int) := of_decide_eq_true pD
       obtain ⟨ad372, A372_0, c372_0, e372, hx372_0, hl372_0, hi372_0⟩ := at_L1 (Kd.N_reads' HO_5.out).2.2 x11_1 p372 q372
       cases e372
       obtain ⟨ce372, hce372, hMe372, hcc372⟩ := Kd.N_get HO_5.out [] x11_1 p372 (by first | exact q372 | exact of_decide_eq_true pD | (have e_ := (Kd.N_reads' HO_5.out).1; omega))
       obtain ⟨ua372_0, uc372_0, rfl, ul372_0, ge372_0⟩ := Kd.FK_slice_open hMe372
       have hv372_0 := hcc372 0 _ rfl
       rw [Nat.add_zero, show ((Kd.slice 3 (Kd.int .i64))).sz = 1 from rfl, Nat.mul_one] at hv372_0
       replace hv372_0 := Option.some.inj (hv372_0.symm.trans hx372_0)
       injection hv372_0 with hva_ hvn_ hvc_
       rw [hva_] at ge372_0
       rw [hvc_] at ul372_0
       have HL372_0 := Aside0.mk (show Kd.V (Kd.int .i64) 3 _ w.heap.size _ _ (rd_L1 t369 x11_1) from Kd.V_mk ul372_0 ge372_0)
       clear hva_ hvn_ hvc_ ge372_0 ul372_0
       clear hcc372 hce372
       have HR372_0 := Aside0.mk hi372_0
       have HC372_0 := Aside0.mk hl372_0
       clear hi372_0 hl372_0
       replace p372 := eq_true p372
       replace q372 := eq_true q372
       go_wp2_with (first | ((with_reducible refine gate_callee (f := 52) rfl ?_); refine goesL_ (some 19) rfl rfl Try.func52 (by kernel_rfl) rfl #[.slice A372_0 (rd_L1 t369 x11_1).length c372_0, .slice A1 l1.length c1] rfl pA ?_; (with_reducible refine (gradineref19_Same.calls k1 _ _ (rd_L1 t369 x11_1) _ _ l1 true _ ?side1 ?side2 ?side3 ?side4 A9.out).mono ?_); (case side1 => repeat (first | exact (by repeat (first | (with_reducible exact HR372_0.out) | (with_reducible refine Kd.C_alloc ?_ _) | (with_reducible refine Kd.C_drewN ?_ _) | (with_reducible refine Kd.C_drew ?_) | exact HR372_0.out)) | (with_reducible refine Kd.C_alloc ?_ _) | (with_reducible refine Kd.C_drewN ?_ _) | (with_reducible refine Kd.C_drew ?_))); (case side2 => exact HC372_0.out); (case side3 => exact pC (Kd.C_below HR1.out HB.out)); (case side4 => exact HC1.out); rintro e w' ⟨rfl, ⟨nd, rfl⟩⟩; refine ⟨_, rfl, ?_⟩))
       go_ret
       exact ⟨pE, pB HB.out⟩
      ·replace c10 := Bool.eq_false_iff.mpr c10
       subst c10
       have H1 : (gradineref20_Place.l0 k1 l1 t369 (t369.length : Int) (wrap64 (x11_1 + 1))) = some r := by rw [if_neg (show ¬ (false = true) by decide)] at H; exact H
       clear H
       have H := H1
       clear H1
       have H' := Aside0.mk H
       clear H
       have p372 : 0 ≤ (x11_1 : Int) := of_decide_eq_true pD
       have q372 : x11_1 < (t369.length : Int) := of_decide_eq_true pD
       obtain ⟨ad372, A372_0, c372_0, e372, hx372_0, hl372_0, hi372_0⟩ := at_L1 (Kd.N_reads' HO_5.out).2.2 x11_1 p372 q372
       cases e372
       obtain ⟨ce372, hce372, hMe372, hcc372⟩ := Kd.N_get HO_5.out [] x11_1 p372 (by first | exact q372 | exact of_decide_eq_true pD | (have e_ := (Kd.N_reads' HO_5.out).1; omega))
       obtain ⟨ua372_0, uc372_0, rfl, ul372_0, ge372_0⟩ := Kd.FK_slice_open hMe372
       have hv372_0 := hcc372 0 _ rfl
       rw [Nat.add_zero, show ((Kd.slice 3 (Kd.int .i64))).sz = 1 from rfl, Nat.mul_one] at hv372_0
       replace hv372_0 := Option.some.inj (hv372_0.symm.trans hx372_0)
       injection hv372_0 with hva_ hvn_ hvc_
       rw [hva_] at ge372_0
       rw [hvc_] at ul372_0
       have HL372_0 := Aside0.mk (show Kd.V (Kd.int .i64) 3 _ w.heap.size _ _ (rd_L1 t369 x11_1) from Kd.V_mk ul372_0 ge372_0)
       clear hva_ hvn_ hvc_ ge372_0 ul372_0
       clear hcc372 hce372
       have HR372_0 := Aside0.mk hi372_0
       have HC372_0 := Aside0.mk hl372_0
       clear hi372_0 hl372_0
       replace p372 := eq_true p372
       replace q372 := eq_true q372
       go_wp2_with (first | ((with_reducible refine gate_callee (f := 52) rfl ?_); refine goesL_ (some 19) rfl rfl Try.func52 (by kernel_rfl) rfl #[.slice A372_0 (rd_L1 t369 x11_1).length c372_0, .slice A1 l1.length c1] rfl pA ?_; (with_reducible refine (gradineref19_Same.calls k1 _ _ (rd_L1 t369 x11_1) _ _ l1 false _ ?side1 ?side2 ?side3 ?side4 A9.out).mono ?_); (case side1 => repeat (first | exact (by repeat (first | (with_reducible exact HR372_0.out) | (with_reducible refine Kd.C_alloc ?_ _) | (with_reducible refine Kd.C_drewN ?_ _) | (with_reducible refine Kd.C_drew ?_) | exact HR372_0.out)) | (with_reducible refine Kd.C_alloc ?_ _) | (with_reducible refine Kd.C_drewN ?_ _) | (with_reducible refine Kd.C_drew ?_))); (case side2 => exact HC372_0.out); (case side3 => exact pC (Kd.C_below HR1.out HB.out)); (case side4 => exact HC1.out); rintro e w' ⟨rfl, ⟨nd, rfl⟩⟩; refine ⟨_, rfl, ?_⟩))
       go_roundg k1
       case measure => have := HK1.out; omega
       case rel => exact ⟨(wrap64 (x11_1 + 1)), (pF), H', ⟨by have := HK1.out; omega⟩, ⟨by (with_reducible repeat (first | apply Kd.N_alloc | apply Kd.N_drewN | apply Kd.N_drew)); exact HO_5.out⟩, ⟨pB HB.out⟩⟩
     ·rw [if_neg c8] at H
      exact absurd H (by simp)
    ·rw [if_neg c7] at H
     exact absurd H (by simp)
   ·rw [if_neg c6] at H
    have c6b0 : decide (x11_1 < (t369.length : Int)) = false := decide_eq_false c6
    clear c6
    obtain rfl := Option.some.inj H
    go_wp2
    go_ret
    exact ⟨pE, pB HB.out⟩

end Go.Proofs.Ytpoldofghcmfnaa.Q
