-- By wip/gprint.py (this session's), out of the kit's print.py.
import Derived.Test.YticcamciaohepaaQx0
import Derived.Test.YticcamciaohepaaQxfRef19Same
import Derived.Test.YticcamciaohepaaQxfRef20All
namespace Go.Proofs.Yticcamciaohepaa.Q
open Go.RowKit Go.Proofs.YticcamciaohepaaW.PrintWords Go.Proofs.YticcamciaohepaaW.PrintLast Go.Proofs.YticcamciaohepaaW.PrintMore
attribute [local go_sem] max2_int min2_int max_two min_two max_three min_three max_four min_four   -- for this text's walks alone
set_option linter.unusedVariables false
set_option linter.unusedSimpArgs false

/-! ### gradineref20_Place: function 31 -/
def gradineref20_Place.l0 : Nat → List Int → List (List Int) → Int → Int → Option (Int)
 | 0, _, _, _, _ => none
 | k + 1, x1, x5, x10, x11 => if x11 < x10 then (if 0 ≤ x11 then (if x11 < (x5.length : Int) then ((gradineref19_Same.f k (rd_L1 x5 x11) x1).bind fun zf => (if zf = true then (some x11) else (gradineref20_Place.l0 k x1 x5 x10 (wrap64 (x11 + 1))))) else (none)) else (none)) else (some (-1))
def gradineref20_Place.f (k : Nat) (l0 : List Int) (l1 : List Int) : Option (Int) := (gradineref20_All.f k l0).bind fun za => (gradineref20_Place.l0 k l1 za (za.length : Int) 0)
set_option maxHeartbeats 8000000 in
set_option maxRecDepth 100000 in
theorem gradineref20_Place.calls (k : Nat) (A0 : Option Addr) (c0 : Nat) (l0 : List Int) (A1 : Option Addr) (c1 : Nat) (l1 : List Int) (r : Int) (w : World) (hr0 : Kd.C (Kd.int .i64) w A0 l0.length l0) (hc0 : l0.length ≤ c0) (hr1 : Kd.C (Kd.int .i64) w A1 l1.length l1) (hc1 : l1.length ≤ c1) (h : gradineref20_Place.f k l0 l1 = some r) :
  Calls Try.prog 31 #[.slice A0 l0.length c0, .slice A1 l1.length c1] w fun e w' => e = .returned (.int .i64 r) ∧ Below w.heap.size w w' := by
 have HR0 := aM hr0
 have HC0 := aM hc0
 clear hr0 hc0
 have HR1 := aM hr1
 have HC1 := aM hc1
 clear hr1 hc1
 have HB := aM (Below.refl w.heap.size w)
 have H : ((gradineref20_All.f k l0).bind fun za => (gradineref20_Place.l0 k l1 za (za.length : Int) 0)) = some r := h
 clear h
 replace H := Option.bind_eq_some_iff.mp H
 obtain ⟨za, A30, H⟩ := H
 try dsimp only at H
 have A3 := aM A30
 clear A30
 have H' := aM H
 clear H
 go_enter Try.func31, Try.ntmps31
 go_wp2_with (first | ((with_reducible refine gate_callee (f := 30) rfl ?_); refine goesL_ (some 8) rfl rfl Try.func30 (by kernel_rfl) rfl #[.slice A0 l0.length c0] rfl pA ?_; (with_reducible refine (gradineref20_All.calls k _ _ l0 za _ ?s1 ?s2 A3.out).mono ?_); (case s1 => exact pC HR0.out); (case s2 => exact HC0.out); rintro e w4 ⟨v520, rfl, ho0, hb⟩; refine ⟨_, rfl, ?_⟩; have ze := aM (Kd.N_lower (Kd.N_mono (ok' := fun k_ => True) ho0 (fun k_ hk_ => trivial)) (below_size (qB HB))); replace HB := bS (qB HB) hb; (try clear hb); (try clear hk); (try clear hi); (try clear ho0); obtain ⟨Ao5, co5, eo5⟩ := Kd.N_slice ze.out; subst eo5))
 go_loopg [11] k (fun kq v11 w' => ∃ (x11_1 : Int), v11 = .int .i64 x11_1 ∧ Aside0 (gradineref20_Place.l0 kq l1 za (za.length : Int) x11_1 = some r) ∧ Aside0 (kq ≤ k) ∧ Aside0 (Kd.N (Kd.slice 3 (Kd.int .i64)) 22 w' w.heap.size (fun _ => True) (.slice Ao5 za.length co5) za) ∧ Aside0 (Below w.heap.size w w'))
 case atStart => exact ⟨(0), (pF), H', ⟨Nat.le_refl _⟩, ⟨by (with_reducible repeat (first | apply Kd.N_alloc | apply Kd.N_drewN | apply Kd.N_drew)); exact ze.out⟩, ⟨qB HB⟩⟩
 case round =>
  clear H'
  try clear c1
  obtain ⟨x11_1, rfl, HA, HK1, zd, HB⟩ := hrel
  cases gk with
  | zero => exact absurd HA.out (by simp [gradineref20_Place.l0])
  | succ k1 =>
   have H := HA.out
   clear HA
   simp only [gradineref20_Place.l0] at H
   by_cases c6 : x11_1 < (za.length : Int)
   rotate_left
   ·rw [if_neg c6] at H
    have c6b0 : decide (x11_1 < (za.length : Int)) = false := decide_eq_false c6
    clear c6
    obtain rfl := Option.some.inj H
    go_wp2
    go_ret
    exact ⟨pE, qB HB⟩

   rw [if_pos c6] at H
   have c6b0 : decide (x11_1 < (za.length : Int)) = true := decide_eq_true c6
   clear c6
   by_cases c7 : 0 ≤ x11_1
   rotate_left
   ·rw [if_neg c7] at H
    exact absurd H (by simp)
   rw [if_pos c7] at H
   have c7b0 : decide (0 ≤ x11_1) = true := decide_eq_true c7
   clear c7
   by_cases c8 : x11_1 < (za.length : Int)
   rotate_left
   ·rw [if_neg c8] at H
    exact absurd H (by simp)
   rw [if_pos c8] at H
   have c8b0 : decide (x11_1 < (za.length : Int)) = true := decide_eq_true c8
   clear c8
   replace H := Option.bind_eq_some_iff.mp H
   obtain ⟨zf, A90, H⟩ := H
   try dsimp only at H
   have A9 := aM A90
   clear A90
   by_cases c10 : zf = true
   ·subst c10
    rw [if_pos rfl] at H
    obtain rfl := Option.some.inj H
    have p522 : 0 ≤ (x11_1 : Int) := of_decide_eq_true pD
    have q522 : x11_1 < (za.length : Int) := of_decide_eq_true pD
    obtain ⟨ad522, A522_0, c522_0, e522, hx522_0, hl522_0, hi522_0⟩ := at_L1 (Kd.N_reads' zd.out).2.2 x11_1 p522 q522
    cases e522
    obtain ⟨ce522, hce522, hMe522, hcc522⟩ := Kd.N_get zd.out [] x11_1 p522 (by first | exact q522 | exact of_decide_eq_true pD | (have e_ := (Kd.N_reads' zd.out).1; omega))
    obtain ⟨ua522_0, uc522_0, rfl, ul522_0, ge522_0⟩ := Kd.FK_slice_open hMe522
    have hv522_0 := hcc522 0 _ rfl
    rw [Nat.add_zero, show ((Kd.slice 3 (Kd.int .i64))).sz = 1 from rfl, Nat.mul_one] at hv522_0
    replace hv522_0 := Option.some.inj (hv522_0.symm.trans hx522_0)
    injection hv522_0 with hva_ hvn_ hvc_
    rw [hva_] at ge522_0
    rw [hvc_] at ul522_0
    have HL522_0 := aM (show Kd.V (Kd.int .i64) 3 _ w.heap.size _ _ (rd_L1 za x11_1) from Kd.V_mk ul522_0 ge522_0)
    clear hva_ hvn_ hvc_ ge522_0 ul522_0
    clear hcc522 hce522
    have zb := aM hi522_0
    have zc := aM hl522_0
    clear hi522_0 hl522_0
    replace p522 := eq_true p522
    replace q522 := eq_true q522
    go_wp2_with (first | ((with_reducible refine gate_callee (f := 44) rfl ?_); refine goesL_ (some 19) rfl rfl Try.func44 (by kernel_rfl) rfl #[.slice A522_0 (rd_L1 za x11_1).length c522_0, .slice A1 l1.length c1] rfl pA ?_; (with_reducible refine (gradineref19_Same.calls k1 _ _ (rd_L1 za x11_1) _ _ l1 true _ ?s1 ?s2 ?s3 ?s4 A9.out).mono ?_); (case s1 => repeat (first | exact (by repeat (first | (with_reducible exact zb.out) | (with_reducible refine Kd.C_alloc ?_ _) | (with_reducible refine Kd.C_drewN ?_ _) | (with_reducible refine Kd.C_drew ?_) | exact zb.out)) | (with_reducible refine Kd.C_alloc ?_ _) | (with_reducible refine Kd.C_drewN ?_ _) | (with_reducible refine Kd.C_drew ?_))); (case s2 => exact zc.out); (case s3 => exact sC HR1 HB); (case s4 => exact HC1.out); rintro e w' ⟨rfl, ⟨nd, rfl⟩⟩; refine ⟨_, rfl, ?_⟩))
    go_ret
    exact ⟨pE, qB HB⟩
   replace c10 := Bool.eq_false_iff.mpr c10
   subst c10
   rw [if_neg (show ¬ (false = true) by decide)] at H
   have H' := aM H
   clear H
   have p522 : 0 ≤ (x11_1 : Int) := of_decide_eq_true pD
   have q522 : x11_1 < (za.length : Int) := of_decide_eq_true pD
   obtain ⟨ad522, A522_0, c522_0, e522, hx522_0, hl522_0, hi522_0⟩ := at_L1 (Kd.N_reads' zd.out).2.2 x11_1 p522 q522
   cases e522
   obtain ⟨ce522, hce522, hMe522, hcc522⟩ := Kd.N_get zd.out [] x11_1 p522 (by first | exact q522 | exact of_decide_eq_true pD | (have e_ := (Kd.N_reads' zd.out).1; omega))
   obtain ⟨ua522_0, uc522_0, rfl, ul522_0, ge522_0⟩ := Kd.FK_slice_open hMe522
   have hv522_0 := hcc522 0 _ rfl
   rw [Nat.add_zero, show ((Kd.slice 3 (Kd.int .i64))).sz = 1 from rfl, Nat.mul_one] at hv522_0
   replace hv522_0 := Option.some.inj (hv522_0.symm.trans hx522_0)
   injection hv522_0 with hva_ hvn_ hvc_
   rw [hva_] at ge522_0
   rw [hvc_] at ul522_0
   have HL522_0 := aM (show Kd.V (Kd.int .i64) 3 _ w.heap.size _ _ (rd_L1 za x11_1) from Kd.V_mk ul522_0 ge522_0)
   clear hva_ hvn_ hvc_ ge522_0 ul522_0
   clear hcc522 hce522
   have zb := aM hi522_0
   have zc := aM hl522_0
   clear hi522_0 hl522_0
   replace p522 := eq_true p522
   replace q522 := eq_true q522
   go_wp2_with (first | ((with_reducible refine gate_callee (f := 44) rfl ?_); refine goesL_ (some 19) rfl rfl Try.func44 (by kernel_rfl) rfl #[.slice A522_0 (rd_L1 za x11_1).length c522_0, .slice A1 l1.length c1] rfl pA ?_; (with_reducible refine (gradineref19_Same.calls k1 _ _ (rd_L1 za x11_1) _ _ l1 false _ ?s1 ?s2 ?s3 ?s4 A9.out).mono ?_); (case s1 => repeat (first | exact (by repeat (first | (with_reducible exact zb.out) | (with_reducible refine Kd.C_alloc ?_ _) | (with_reducible refine Kd.C_drewN ?_ _) | (with_reducible refine Kd.C_drew ?_) | exact zb.out)) | (with_reducible refine Kd.C_alloc ?_ _) | (with_reducible refine Kd.C_drewN ?_ _) | (with_reducible refine Kd.C_drew ?_))); (case s2 => exact zc.out); (case s3 => exact sC HR1 HB); (case s4 => exact HC1.out); rintro e w' ⟨rfl, ⟨nd, rfl⟩⟩; refine ⟨_, rfl, ?_⟩))
   go_roundg k1
   case measure => have := HK1.out; omega
   case rel => exact ⟨(wrap64 (x11_1 + 1)), (pF), H', ⟨by have := HK1.out; omega⟩, ⟨by (with_reducible repeat (first | apply Kd.N_alloc | apply Kd.N_drewN | apply Kd.N_drew)); exact zd.out⟩, ⟨qB HB⟩⟩
end Go.Proofs.Yticcamciaohepaa.Q
