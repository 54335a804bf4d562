-- By wip/gprint.py (this session's), out of the kit's print.py.
import Derived.Test.YtmocfgkdclkgoaaQx0
import Derived.Test.YtmocfgkdclkgoaaQxfShapeSame
import Derived.Test.YtmocfgkdclkgoaaQxfSpreadTwo
namespace Go.Proofs.Ytmocfgkdclkgoaa.Q
open Go.RowKit Go.Proofs.YtmocfgkdclkgoaaW.PrintWords Go.Proofs.YtmocfgkdclkgoaaW.PrintLast Go.Proofs.YtmocfgkdclkgoaaW.PrintMore
attribute [local go_sem] max2_int min2_int max_two min_two max_three min_three max_four min_four   -- for this text's walks alone
set_option linter.unusedVariables false
set_option linter.unusedSimpArgs false

/-! ### spread_Fits: function 10 -/
def spread_Fits.f (k : Nat) (l0 : List Int) (l1 : List Int) : Option (Bool) := (spread_Two.f k l0 l1).bind fun bt164 => (if bt164.2 = 0 then ((shape_Same.f k bt164.1 l1).bind fun zc => (some zc)) else (some false))
set_option maxHeartbeats 8000000 in
set_option maxRecDepth 100000 in
theorem spread_Fits.calls (k : Nat) (A0 : Option Addr) (c0 : Nat) (l0 : List Int) (A1 : Option Addr) (c1 : Nat) (l1 : List Int) (r : Bool) (w : World) (hr0 : Kd.C (Kd.int .i64) w A0 l0.length l0) (hc0 : l0.length ≤ c0) (hr1 : Kd.C (Kd.int .i64) w A1 l1.length l1) (hc1 : l1.length ≤ c1) (h : spread_Fits.f k l0 l1 = some r) :
  Calls Try.prog 10 #[.slice A0 l0.length c0, .slice A1 l1.length c1] w fun e w' => e = .returned (.bool r) ∧ Below w.heap.size w w' := by
 have HR0 := aM hr0
 have HC0 := aM hc0
 clear hr0 hc0
 have HR1 := aM hr1
 have HC1 := aM hc1
 clear hr1 hc1
 have HB := aM (Below.refl w.heap.size w)
 have H : ((spread_Two.f k l0 l1).bind fun bt164 => (if bt164.2 = 0 then ((shape_Same.f k bt164.1 l1).bind fun zc => (some zc)) else (some false))) = some r := h
 clear h
 replace H := Option.bind_eq_some_iff.mp H
 obtain ⟨⟨zd, za⟩, A30, H⟩ := H
 try dsimp only at H
 have A3 := aM A30
 clear A30
 by_cases c4 : za = 0
 rotate_left
 ·rw [if_neg c4] at H
  have c4b0 : (za == 0) = false := beq_eq_false_iff_ne.mpr c4
  have c4b1 : (za != 0) = true := bne_iff_ne.mpr c4
  obtain rfl := Option.some.inj H
  go_enter Try.func10, Try.ntmps10
  go_wp2_with (first | ((with_reducible refine gate_callee (f := 9) rfl ?_); refine goesL_ (some 10) rfl rfl Try.func9 (by kernel_rfl) rfl #[.slice A0 l0.length c0, .slice A1 l1.length c1] rfl pA ?_; (with_reducible refine (spread_Two.calls k (fun k_ => k_ < w.heap.size) _ _ l0 (fun k_ => k_ < w.heap.size) _ _ l1 zd za _ ?s1 ?s2 A3.out).mono ?_); (case s1 => exact Kd.V_mk HC0.out (Kd.F_below (Kd.C_F (Kd.heap_int .i64) HR0.out) (qB HB))); (case s2 => exact Kd.V_mk HC1.out (Kd.F_below (Kd.C_F (Kd.heap_int .i64) HR1.out) (qB HB))); rintro e w8 ⟨v165, rfl, ho0, hb⟩; refine ⟨_, rfl, ?_⟩; have zb := aM (Kd.R_lower (Kd.R_mono (ok' := fun k_ => True) ho0 (fun _ hk_ => trivial)) (below_size (qB HB))); replace HB := bS (qB HB) hb; (try clear hb); (try clear hk); (try clear hi); (try clear ho0)))
  go_ret
  exact ⟨pE, qB HB⟩

 rw [if_pos c4] at H
 have c4b0 : (za == 0) = true := beq_iff_eq.mpr c4
 have c4b1 : (za != 0) = false := bne_eq_false_iff_eq.mpr c4
 clear c4
 replace H := Option.bind_eq_some_iff.mp H
 obtain ⟨zc, A50, H⟩ := H
 try dsimp only at H
 have A5 := aM A50
 clear A50
 obtain rfl := Option.some.inj H
 go_enter Try.func10, Try.ntmps10
 go_wp2_with (first | ((with_reducible refine gate_callee (f := 9) rfl ?_); refine goesL_ (some 10) rfl rfl Try.func9 (by kernel_rfl) rfl #[.slice A0 l0.length c0, .slice A1 l1.length c1] rfl pA ?_; (with_reducible refine (spread_Two.calls k (fun k_ => k_ < w.heap.size) _ _ l0 (fun k_ => k_ < w.heap.size) _ _ l1 zd za _ ?s1 ?s2 A3.out).mono ?_); (case s1 => exact Kd.V_mk HC0.out (Kd.F_below (Kd.C_F (Kd.heap_int .i64) HR0.out) (qB HB))); (case s2 => exact Kd.V_mk HC1.out (Kd.F_below (Kd.C_F (Kd.heap_int .i64) HR1.out) (qB HB))); rintro e w6 ⟨v165, rfl, ho0, hb⟩; refine ⟨_, rfl, ?_⟩; have zb := aM (Kd.R_lower (Kd.R_mono (ok' := fun k_ => True) ho0 (fun _ hk_ => trivial)) (below_size (qB HB))); replace HB := bS (qB HB) hb; (try clear hb); (try clear hk); (try clear hi); (try clear ho0); obtain ⟨Ao7, co7, eo7⟩ := Kd.R_slice zb.out; subst eo7) | (go_at_call 18; (with_reducible refine (shape_Same.calls k _ _ zd _ _ l1 zc _ ?s1 ?s2 ?s3 ?s4 A5.out).mono ?_); (case s1 => exact sR zb); (case s2 => exact sL zb); (case s3 => exact sC HR1 HB); (case s4 => exact HC1.out); rintro e w' ⟨rfl, ⟨nd, rfl⟩⟩))
 go_ret
 exact ⟨pE, qB HB⟩
end Go.Proofs.Ytmocfgkdclkgoaa.Q
