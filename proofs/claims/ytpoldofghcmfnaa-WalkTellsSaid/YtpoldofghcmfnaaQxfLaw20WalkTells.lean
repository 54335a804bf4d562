-- Written by this session's program wip/gprint.py, which drives the kit's print.py and puts the session's own texts in for some functions.
import Derived.Test.YtpoldofghcmfnaaQx0
import Derived.Test.YtpoldofghcmfnaaQxfLaw19Many
import Derived.Test.YtpoldofghcmfnaaQxfLaw20Same
import Derived.Test.YtpoldofghcmfnaaQxfPlainInts
import Derived.Test.YtpoldofghcmfnaaQxfRef20All
import Derived.Test.YtpoldofghcmfnaaQxfRef20Place
import Derived.Test.YtpoldofghcmfnaaQxfWalkAll
import Derived.Test.YtpoldofghcmfnaaQxfWalkAt
import Derived.Test.YtpoldofghcmfnaaQxfWalkNext
import Derived.Test.YtpoldofghcmfnaaQxfWalkPlace
namespace Go.Proofs.Ytpoldofghcmfnaa.Q
open Go.RowKit Go.Proofs.YtpoldofghcmfnaaW.PrintWords Go.Proofs.YtpoldofghcmfnaaW.PrintLast Go.Proofs.YtpoldofghcmfnaaW.PrintMore
attribute [local go_sem] max2_int min2_int max_two min_two max_three min_three max_four min_four   -- for this text's walks alone
set_option linter.unusedVariables false
set_option linter.unusedSimpArgs false

/-! ### gradinelaw20_WalkTells: function 7 -/
mutual
def gradinelaw20_WalkTells.l0 : Nat → List Int → List Int → Int → List (List Int) → List (List Int) → Int → Int → Option (Bool)
 | 0, _, _, _, _, _, _, _ => none
 | k + 1, x0, x1, x2, x7, x8, x31, x32 => if x32 < x31 then (if 0 ≤ x32 then (if x32 < (x8.length : Int) then (if x32 < (x7.length : Int) then ((gradineplain_Ints.f k (rd_L1 x8 x32) (rd_L1 x7 x32)).bind fun t384 => (if t384 = true then (gradinelaw20_WalkTells.l0 k x0 x1 x2 x7 x8 x31 (wrap64 (x32 + 1))) else (some false))) else (none)) else (none)) else (none)) else ((walk_At.f k x0 x2).bind fun bt385 => ((walk_Place.f k x0 x1).bind fun bt389 => ((walk_Next.f k x0 x1).bind fun bt391 => ((gradineref20_Place.f k x0 x1).bind fun t395 => (if x2 ≥ 0 then (if (bt385.2 != (decide (x2 < (x7.length : Int)))) = true then (gradinelaw20_WalkTells.j1 k x2 x7 bt385.1 bt385.2 bt391.1 bt391.2 t395 true) else (if (bt389.2 != (decide (t395 ≥ 0))) = true then (gradinelaw20_WalkTells.j1 k x2 x7 bt385.1 bt385.2 bt391.1 bt391.2 t395 true) else (if bt389.1 = (mx t395 0) then (if t395 ≥ 0 then (gradinelaw20_WalkTells.j1 k x2 x7 bt385.1 bt385.2 bt391.1 bt391.2 t395 (bt391.2 != (decide (t395 < (wrap64 ((x7.length : Int) - 1)))))) else (gradinelaw20_WalkTells.j1 k x2 x7 bt385.1 bt385.2 bt391.1 bt391.2 t395 (bt391.2 != false))) else (gradinelaw20_WalkTells.j1 k x2 x7 bt385.1 bt385.2 bt391.1 bt391.2 t395 true)))) else (if (bt385.2 != false) = true then (gradinelaw20_WalkTells.j1 k x2 x7 bt385.1 bt385.2 bt391.1 bt391.2 t395 true) else (if (bt389.2 != (decide (t395 ≥ 0))) = true then (gradinelaw20_WalkTells.j1 k x2 x7 bt385.1 bt385.2 bt391.1 bt391.2 t395 true) else (if bt389.1 = (mx t395 0) then (if t395 ≥ 0 then (gradinelaw20_WalkTells.j1 k x2 x7 bt385.1 bt385.2 bt391.1 bt391.2 t395 (bt391.2 != (decide (t395 < (wrap64 ((x7.length : Int) - 1)))))) else (gradinelaw20_WalkTells.j1 k x2 x7 bt385.1 bt385.2 bt391.1 bt391.2 t395 (bt391.2 != false))) else (gradinelaw20_WalkTells.j1 k x2 x7 bt385.1 bt385.2 bt391.1 bt391.2 t395 true)))))))))
def gradinelaw20_WalkTells.j1 : Nat → Int → List (List Int) → List Int → Bool → List Int → Bool → Int → Bool → Option (Bool)
 | 0, _, _, _, _, _, _, _, _ => none
 | k + 1, x2, x7, x10, x11, x14, x15, x16, x101 => if x101 = true then (some false) else (if x11 = true then (if 0 ≤ x2 then (if x2 < (x7.length : Int) then ((gradineplain_Ints.f k x10 (rd_L1 x7 x2)).bind fun t397 => (if t397 = true then (if x15 = true then (if 0 ≤ (wrap64 (x16 + 1)) then (if (wrap64 (x16 + 1)) < (x7.length : Int) then ((gradineplain_Ints.f k x14 (rd_L1 x7 (wrap64 (x16 + 1)))).bind fun t399 => (if t399 = true then ((gradinelaw20_same.f k).bind fun t400 => (some t400)) else (some false))) else (none)) else (none)) else (if (x14.length : Int) > 0 then (some false) else ((gradinelaw20_same.f k).bind fun t401 => (some t401)))) else (some false))) else (none)) else (none)) else (if (x10.length : Int) > 0 then (some false) else (if x15 = true then (if 0 ≤ (wrap64 (x16 + 1)) then (if (wrap64 (x16 + 1)) < (x7.length : Int) then ((gradineplain_Ints.f k x14 (rd_L1 x7 (wrap64 (x16 + 1)))).bind fun t403 => (if t403 = true then ((gradinelaw20_same.f k).bind fun t404 => (some t404)) else (some false))) else (none)) else (none)) else (if (x14.length : Int) > 0 then (some false) else ((gradinelaw20_same.f k).bind fun t405 => (some t405))))))
end
def gradinelaw20_WalkTells.f (k : Nat) (l0 : List Int) (l1 : List Int) (a2 : Int) : Option (Bool) := (gradinelaw19_Many.f l0 l1).bind fun t374 => (if t374 = true then ((gradinelaw20_same.f k).bind fun t375 => (some t375)) else ((gradineref20_All.f k l0).bind fun t376 => ((walk_All.f k l0).bind fun t379 => (if (t379.length : Int) = (t376.length : Int) then (gradinelaw20_WalkTells.l0 k l0 l1 a2 t376 t379 (t379.length : Int) 0) else (some false)))))
set_option maxHeartbeats 8000000 in
set_option maxRecDepth 100000 in
theorem gradinelaw20_WalkTells.calls (k : Nat) (A0 : Option Addr) (c0 : Nat) (l0 : List Int) (A1 : Option Addr) (c1 : Nat) (l1 : List Int) (a2 : Int) (w : World) (hr0 : Kd.C (Kd.int .i64) w A0 l0.length l0) (hc0 : l0.length ≤ c0) (hr1 : Kd.C (Kd.int .i64) w A1 l1.length l1) (hc1 : l1.length ≤ c1) (h : gradinelaw20_WalkTells.f k l0 l1 a2 = some true) :
  Calls Try.prog 7 #[.slice A0 l0.length c0, .slice A1 l1.length c1, .int .i64 a2] w fun e w' => e = .returned (.bool true) ∧ Below w.heap.size w w' := by
 have HR0 := Aside0.mk hr0
 have HC0 := Aside0.mk hc0
 clear hr0 hc0
 have HR1 := Aside0.mk hr1
 have HC1 := Aside0.mk hc1
 clear hr1 hc1
 have HB := Aside0.mk (Below.refl w.heap.size w)
 have H : ((gradinelaw19_Many.f l0 l1).bind fun t374 => (if t374 = true then ((gradinelaw20_same.f k).bind fun t375 => (some t375)) else ((gradineref20_All.f k l0).bind fun t376 => ((walk_All.f k l0).bind fun t379 => (if (t379.length : Int) = (t376.length : Int) then (gradinelaw20_WalkTells.l0 k l0 l1 a2 t376 t379 (t379.length : Int) 0) else (some false)))))) = some true := h
 clear h
 replace H := Option.bind_eq_some_iff.mp H
 obtain ⟨t374, A40, H⟩ := H
 replace H : (if t374 = true then ((gradinelaw20_same.f k).bind fun t375 => (some t375)) else ((gradineref20_All.f k l0).bind fun t376 => ((walk_All.f k l0).bind fun t379 => (if (t379.length : Int) = (t376.length : Int) then (gradinelaw20_WalkTells.l0 k l0 l1 a2 t376 t379 (t379.length : Int) 0) else (some false))))) = some true := H
 have A4 := Aside0.mk A40
 clear A40
 by_cases c5 : t374 = true
 ·subst c5
  have H1 : ((gradinelaw20_same.f k).bind fun t375 => (some t375)) = some true := by rw [if_pos rfl] at H; exact H
  clear H
  have H := H1
  clear H1
  replace H := Option.bind_eq_some_iff.mp H
  obtain ⟨t375, A60, H⟩ := H
  replace H : (some t375) = some true := H
  have A6 := Aside0.mk A60
  clear A60
  have hv_ := Aside0.mk (Option.some.inj H)
  clear H
  go_enter Try.func7, Try.ntmps7
  go_wp2_with (first | (go_at_call 13; (with_reducible refine (gradinelaw19_Many.calls _ _ l0 _ _ l1 true _ ?side1 ?side2 ?side3 ?side4 A4.out).mono ?_); (case side1 => exact pC HR0.out); (case side2 => exact HC0.out); (case side3 => exact pC HR1.out); (case side4 => exact HC1.out); rintro e w' ⟨rfl, ⟨nd, rfl⟩⟩; (try first | exact ⟨rfl, _, World.drewN_drewN _ _ _⟩ | exact ⟨rfl, _, Eq.trans (World.drewN_drewN _ _ _) (congrArg (World.drewN _) (Nat.add_assoc _ _ _))⟩)) | (go_at_call 27; (with_reducible refine (gradinelaw20_same.calls k  t375 _ A6.out).mono ?_); rintro e w7 ⟨rfl, hb⟩; have n0_ := Aside0.mk (below_step (pB HB.out) hb); clear HB; have HB := n0_; clear n0_; (try clear hb); (try clear hb2); (try clear hk); (try clear hi)))
  repeat (go_quiet (first | (go_at_call 13; (with_reducible refine (gradinelaw19_Many.calls _ _ l0 _ _ l1 true _ ?side1 ?side2 ?side3 ?side4 A4.out).mono ?_); (case side1 => exact pC HR0.out); (case side2 => exact HC0.out); (case side3 => exact pC HR1.out); (case side4 => exact HC1.out); rintro e w' ⟨rfl, ⟨nd, rfl⟩⟩; (try first | exact ⟨rfl, _, World.drewN_drewN _ _ _⟩ | exact ⟨rfl, _, Eq.trans (World.drewN_drewN _ _ _) (congrArg (World.drewN _) (Nat.add_assoc _ _ _))⟩)) | (go_at_call 27; (with_reducible refine (gradinelaw20_same.calls k  t375 _ A6.out).mono ?_); rintro e w7 ⟨rfl, hb⟩; have n0_ := Aside0.mk (below_step (pB HB.out) hb); clear HB; have HB := n0_; clear n0_; (try clear hb); (try clear hb2); (try clear hk); (try clear hi))); try go_wp2_with (first | (go_at_call 13; (with_reducible refine (gradinelaw19_Many.calls _ _ l0 _ _ l1 true _ ?side1 ?side2 ?side3 ?side4 A4.out).mono ?_); (case side1 => exact pC HR0.out); (case side2 => exact HC0.out); (case side3 => exact pC HR1.out); (case side4 => exact HC1.out); rintro e w' ⟨rfl, ⟨nd, rfl⟩⟩; (try first | exact ⟨rfl, _, World.drewN_drewN _ _ _⟩ | exact ⟨rfl, _, Eq.trans (World.drewN_drewN _ _ _) (congrArg (World.drewN _) (Nat.add_assoc _ _ _))⟩)) | (go_at_call 27; (with_reducible refine (gradinelaw20_same.calls k  t375 _ A6.out).mono ?_); rintro e w7 ⟨rfl, hb⟩; have n0_ := Aside0.mk (below_step (pB HB.out) hb); clear HB; have HB := n0_; clear n0_; (try clear hb); (try clear hb2); (try clear hk); (try clear hi))))
  go_ret
  replace hv_ := hv_.out
  exact ⟨pE, pB HB.out⟩
 ·replace c5 := Bool.eq_false_iff.mpr c5
  subst c5
  have H1 : ((gradineref20_All.f k l0).bind fun t376 => ((walk_All.f k l0).bind fun t379 => (if (t379.length : Int) = (t376.length : Int) then (gradinelaw20_WalkTells.l0 k l0 l1 a2 t376 t379 (t379.length : Int) 0) else (some false)))) = some true := by rw [if_neg (show ¬ (false = true) by decide)] at H; exact H
  clear H
  have H := H1
  clear H1
  replace H := Option.bind_eq_some_iff.mp H
  obtain ⟨t376, A80, H⟩ := H
  replace H : ((walk_All.f k l0).bind fun t379 => (if (t379.length : Int) = (t376.length : Int) then (gradinelaw20_WalkTells.l0 k l0 l1 a2 t376 t379 (t379.length : Int) 0) else (some false))) = some true := H
  have A8 := Aside0.mk A80
  clear A80
  replace H := Option.bind_eq_some_iff.mp H
  obtain ⟨t379, A90, H⟩ := H
  replace H : (if (t379.length : Int) = (t376.length : Int) then (gradinelaw20_WalkTells.l0 k l0 l1 a2 t376 t379 (t379.length : Int) 0) else (some false)) = some true := H
  have A9 := Aside0.mk A90
  clear A90
  by_cases c10 : (t379.length : Int) = (t376.length : Int)
  ·rw [if_pos c10] at H
   have c10b0 : ((t379.length : Int) == (t376.length : Int)) = true := beq_iff_eq.mpr c10
   have c10b1 : ((t379.length : Int) != (t376.length : Int)) = false := bne_eq_false_iff_eq.mpr c10
   have c10b2 : (t379.length == t376.length) = true := by first | simpa using c10 | (simp at c10 ⊢; omega)
   clear c10
   have H' := Aside0.mk H
   clear H
   go_enter Try.func7, Try.ntmps7
   go_wp2_with (first | (go_at_call 13; (with_reducible refine (gradinelaw19_Many.calls _ _ l0 _ _ l1 false _ ?side1 ?side2 ?side3 ?side4 A4.out).mono ?_); (case side1 => exact pC HR0.out); (case side2 => exact HC0.out); (case side3 => exact pC HR1.out); (case side4 => exact HC1.out); rintro e w' ⟨rfl, ⟨nd, rfl⟩⟩; (try first | exact ⟨rfl, _, World.drewN_drewN _ _ _⟩ | exact ⟨rfl, _, Eq.trans (World.drewN_drewN _ _ _) (congrArg (World.drewN _) (Nat.add_assoc _ _ _))⟩)) | (go_at_call 30; (with_reducible refine (gradineref20_All.calls k _ _ l0 t376 _ ?side1 ?side2 A8.out).mono ?_); (case side1 => exact pC HR0.out); (case side2 => exact HC0.out); rintro e w11 ⟨v377, rfl, ho0, hb⟩; have n0_ := Aside0.mk (Kd.N_lower (Kd.N_mono (ok' := fun k_ => True) ho0 (fun k_ hk_ => trivial)) (below_size (pB HB.out))); have n1_ := Aside0.mk (below_step (pB HB.out) hb); clear HB; have HO378 := n0_; have HB := n1_; clear n0_ n1_; (try clear hb); (try clear hb2); (try clear hk); (try clear hi); (try clear ho0)) | (go_at_call 31; (with_reducible refine (walk_All.calls k _ _ l0 t379 _ ?side1 ?side2 A9.out).mono ?_); (case side1 => exact pC (Kd.C_below HR0.out HB.out)); (case side2 => exact HC0.out); rintro e w12 ⟨v380, rfl, ho0, hb⟩; have n0_ := Aside0.mk (Kd.N_elder' (by (with_reducible repeat (first | apply Kd.N_alloc | apply Kd.N_drewN | apply Kd.N_drew)); exact HO378.out) (Kd.N_base ho0) hb); have n1_ := Aside0.mk (Kd.N_lower (Kd.N_mono (ok' := fun k_ => some k_ ≠ (v377 : Value).ownBlock) ho0 (fun k_ hk_ => (Kd.fresh' (Kd.N_lt (by (with_reducible repeat (first | apply Kd.N_alloc | apply Kd.N_drewN | apply Kd.N_drew)); exact HO378.out)) k_ hk_))) (below_size (pB HB.out))); have n2_ := Aside0.mk (below_step (pB HB.out) hb); clear HO378; clear HB; have HO378 := n0_; have HO381 := n1_; have HB := n2_; clear n0_ n1_ n2_; (try clear hb); (try clear hb2); (try clear hk); (try clear hi); (try clear ho0); obtain ⟨Ao13, co13, eo13⟩ := Kd.N_slice HO381.out; subst eo13; obtain ⟨Ao14, co14, eo14⟩ := Kd.N_slice HO378.out; subst eo14))
   repeat (go_quiet (first | (go_at_call 13; (with_reducible refine (gradinelaw19_Many.calls _ _ l0 _ _ l1 false _ ?side1 ?side2 ?side3 ?side4 A4.out).mono ?_); (case side1 => exact pC HR0.out); (case side2 => exact HC0.out); (case side3 => exact pC HR1.out); (case side4 => exact HC1.out); rintro e w' ⟨rfl, ⟨nd, rfl⟩⟩; (try first | exact ⟨rfl, _, World.drewN_drewN _ _ _⟩ | exact ⟨rfl, _, Eq.trans (World.drewN_drewN _ _ _) (congrArg (World.drewN _) (Nat.add_assoc _ _ _))⟩)) | (go_at_call 30; (with_reducible refine (gradineref20_All.calls k _ _ l0 t376 _ ?side1 ?side2 A8.out).mono ?_); (case side1 => exact pC HR0.out); (case side2 => exact HC0.out); rintro e w11 ⟨v377, rfl, ho0, hb⟩; have n0_ := Aside0.mk (Kd.N_lower (Kd.N_mono (ok' := fun k_ => True) ho0 (fun k_ hk_ => trivial)) (below_size (pB HB.out))); have n1_ := Aside0.mk (below_step (pB HB.out) hb); clear HB; have HO378 := n0_; have HB := n1_; clear n0_ n1_; (try clear hb); (try clear hb2); (try clear hk); (try clear hi); (try clear ho0)) | (go_at_call 31; (with_reducible refine (walk_All.calls k _ _ l0 t379 _ ?side1 ?side2 A9.out).mono ?_); (case side1 => exact pC (Kd.C_below HR0.out HB.out)); (case side2 => exact HC0.out); rintro e w12 ⟨v380, rfl, ho0, hb⟩; have n0_ := Aside0.mk (Kd.N_elder' (by (with_reducible repeat (first | apply Kd.N_alloc | apply Kd.N_drewN | apply Kd.N_drew)); exact HO378.out) (Kd.N_base ho0) hb); have n1_ := Aside0.mk (Kd.N_lower (Kd.N_mono (ok' := fun k_ => some k_ ≠ (v377 : Value).ownBlock) ho0 (fun k_ hk_ => (Kd.fresh' (Kd.N_lt (by (with_reducible repeat (first | apply Kd.N_alloc | apply Kd.N_drewN | apply Kd.N_drew)); exact HO378.out)) k_ hk_))) (below_size (pB HB.out))); have n2_ := Aside0.mk (below_step (pB HB.out) hb); clear HO378; clear HB; have HO378 := n0_; have HO381 := n1_; have HB := n2_; clear n0_ n1_ n2_; (try clear hb); (try clear hb2); (try clear hk); (try clear hi); (try clear ho0); obtain ⟨Ao13, co13, eo13⟩ := Kd.N_slice HO381.out; subst eo13; obtain ⟨Ao14, co14, eo14⟩ := Kd.N_slice HO378.out; subst eo14)); try go_wp2_with (first | (go_at_call 13; (with_reducible refine (gradinelaw19_Many.calls _ _ l0 _ _ l1 false _ ?side1 ?side2 ?side3 ?side4 A4.out).mono ?_); (case side1 => exact pC HR0.out); (case side2 => exact HC0.out); (case side3 => exact pC HR1.out); (case side4 => exact HC1.out); rintro e w' ⟨rfl, ⟨nd, rfl⟩⟩; (try first | exact ⟨rfl, _, World.drewN_drewN _ _ _⟩ | exact ⟨rfl, _, Eq.trans (World.drewN_drewN _ _ _) (congrArg (World.drewN _) (Nat.add_assoc _ _ _))⟩)) | (go_at_call 30; (with_reducible refine (gradineref20_All.calls k _ _ l0 t376 _ ?side1 ?side2 A8.out).mono ?_); (case side1 => exact pC HR0.out); (case side2 => exact HC0.out); rintro e w11 ⟨v377, rfl, ho0, hb⟩; have n0_ := Aside0.mk (Kd.N_lower (Kd.N_mono (ok' := fun k_ => True) ho0 (fun k_ hk_ => trivial)) (below_size (pB HB.out))); have n1_ := Aside0.mk (below_step (pB HB.out) hb); clear HB; have HO378 := n0_; have HB := n1_; clear n0_ n1_; (try clear hb); (try clear hb2); (try clear hk); (try clear hi); (try clear ho0)) | (go_at_call 31; (with_reducible refine (walk_All.calls k _ _ l0 t379 _ ?side1 ?side2 A9.out).mono ?_); (case side1 => exact pC (Kd.C_below HR0.out HB.out)); (case side2 => exact HC0.out); rintro e w12 ⟨v380, rfl, ho0, hb⟩; have n0_ := Aside0.mk (Kd.N_elder' (by (with_reducible repeat (first | apply Kd.N_alloc | apply Kd.N_drewN | apply Kd.N_drew)); exact HO378.out) (Kd.N_base ho0) hb); have n1_ := Aside0.mk (Kd.N_lower (Kd.N_mono (ok' := fun k_ => some k_ ≠ (v377 : Value).ownBlock) ho0 (fun k_ hk_ => (Kd.fresh' (Kd.N_lt (by (with_reducible repeat (first | apply Kd.N_alloc | apply Kd.N_drewN | apply Kd.N_drew)); exact HO378.out)) k_ hk_))) (below_size (pB HB.out))); have n2_ := Aside0.mk (below_step (pB HB.out) hb); clear HO378; clear HB; have HO378 := n0_; have HO381 := n1_; have HB := n2_; clear n0_ n1_ n2_; (try clear hb); (try clear hb2); (try clear hk); (try clear hi); (try clear ho0); obtain ⟨Ao13, co13, eo13⟩ := Kd.N_slice HO381.out; subst eo13; obtain ⟨Ao14, co14, eo14⟩ := Kd.N_slice HO378.out; subst eo14)))
   go_loopg [32] k (fun kq v32 w' => ∃ (x32_1 : Int), v32 = .int .i64 x32_1 ∧ Aside0 (gradinelaw20_WalkTells.l0 kq l0 l1 a2 t376 t379 (t379.length : Int) x32_1 = some true) ∧ Aside0 (kq ≤ k) ∧ Aside0 (Kd.N (Kd.slice 3 (Kd.int .i64)) 22 w' w.heap.size (fun k_ => some k_ ≠ ((.slice Ao13 t379.length co13) : Value).ownBlock) (.slice Ao14 t376.length co14) t376) ∧ Aside0 (Kd.N (Kd.slice 3 (Kd.int .i64)) 22 w' w.heap.size (fun k_ => some k_ ≠ ((.slice Ao14 t376.length co14) : Value).ownBlock) (.slice Ao13 t379.length co13) t379) ∧ Aside0 (Below w.heap.size w w'))
   case atStart => exact ⟨(0), (pF), H', ⟨Nat.le_refl _⟩, ⟨by (with_reducible repeat (first | apply Kd.N_alloc | apply Kd.N_drewN | apply Kd.N_drew)); exact Kd.N_mono HO378.out (fun _ hk => hk.2)⟩, ⟨by (with_reducible repeat (first | apply Kd.N_alloc | apply Kd.N_drewN | apply Kd.N_drew)); exact HO381.out⟩, ⟨pB HB.out⟩⟩
   case round =>
    clear H'
    try clear c1
    try clear p2
    try clear c5
    try clear c7
    try clear c10
    try clear c10b0
    try clear c10b1
    try clear c10b2
    obtain ⟨x32_1, rfl, HA, HK1, HO_7, HO_8, HB⟩ := hrel
    cases gk with
    | zero => exact absurd HA.out (by simp [gradinelaw20_WalkTells.l0])
    | succ k1 =>
     have H := HA.out
     clear HA
     simp only [gradinelaw20_WalkTells.l0] at H
     by_cases c15 : x32_1 < (t379.length : Int)
     ·rw [if_pos c15] at H
      have c15b0 : decide (x32_1 < (t379.length : Int)) = true := decide_eq_true c15
      clear c15
      by_cases c16 : 0 ≤ x32_1
      ·rw [if_pos c16] at H
       have c16b0 : decide (0 ≤ x32_1) = true := decide_eq_true c16
       clear c16
       by_cases c17 : x32_1 < (t379.length : Int)
       ·rw [if_pos c17] at H
        have c17b0 : decide (x32_1 < (t379.length : Int)) = true := decide_eq_true c17
        clear c17
        by_cases c18 : x32_1 < (t376.length : Int)
        ·rw [if_pos c18] at H
         have c18b0 : decide (x32_1 < (t376.length : Int)) = true := decide_eq_true c18
         clear c18
         replace H := Option.bind_eq_some_iff.mp H
         obtain ⟨t384, A190, H⟩ := H
         replace H : (if t384 = true then (gradinelaw20_WalkTells.l0 k1 l0 l1 a2 t376 t379 (t379.length : Int) (wrap64 (x32_1 + 1))) else (some false)) = some true := H
         have A19 := Aside0.mk A190
         clear A190
         by_cases c20 : t384 = true
         ·subst c20
          have H1 : (gradinelaw20_WalkTells.l0 k1 l0 l1 a2 t376 t379 (t379.length : Int) (wrap64 (x32_1 + 1))) = some true := by rw [if_pos rfl] at H; exact H
          clear H
          have H := H1
          clear H1
          have H' := Aside0.mk H
          clear H
          have p382 : 0 ≤ (x32_1 : Int) := of_decide_eq_true pD
          have q382 : x32_1 < (t379.length : Int) := of_decide_eq_true pD
          obtain ⟨ad382, A382_0, c382_0, e382, hx382_0, hl382_0, hi382_0⟩ := at_L1 (Kd.N_reads' HO_8.out).2.2 x32_1 p382 q382
          cases e382
          obtain ⟨ce382, hce382, hMe382, hcc382⟩ := Kd.N_get HO_8.out [] x32_1 p382 (by first | exact q382 | exact of_decide_eq_true pD | (have e_ := (Kd.N_reads' HO_8.out).1; omega))
          obtain ⟨ua382_0, uc382_0, rfl, ul382_0, ge382_0⟩ := Kd.FK_slice_open hMe382
          have hv382_0 := hcc382 0 _ rfl
          rw [Nat.add_zero, show ((Kd.slice 3 (Kd.int .i64))).sz = 1 from rfl, Nat.mul_one] at hv382_0
          replace hv382_0 := Option.some.inj (hv382_0.symm.trans hx382_0)
          injection hv382_0 with hva_ hvn_ hvc_
          rw [hva_] at ge382_0
          rw [hvc_] at ul382_0
          have HL382_0 := Aside0.mk (show Kd.V (Kd.int .i64) 3 _ w.heap.size _ _ (rd_L1 t379 x32_1) from Kd.V_mk ul382_0 ge382_0)
          clear hva_ hvn_ hvc_ ge382_0 ul382_0
          clear hcc382 hce382
          have HR382_0 := Aside0.mk hi382_0
          have HC382_0 := Aside0.mk hl382_0
          clear hi382_0 hl382_0
          replace p382 := eq_true p382
          replace q382 := eq_true q382
          have p383 : 0 ≤ (x32_1 : Int) := of_decide_eq_true pD
          have q383 : x32_1 < (t376.length : Int) := of_decide_eq_true pD
          obtain ⟨ad383, A383_0, c383_0, e383, hx383_0, hl383_0, hi383_0⟩ := at_L1 (Kd.N_reads' HO_7.out).2.2 x32_1 p383 q383
          cases e383
          obtain ⟨ce383, hce383, hMe383, hcc383⟩ := Kd.N_get HO_7.out [] x32_1 p383 (by first | exact q383 | exact of_decide_eq_true pD | (have e_ := (Kd.N_reads' HO_7.out).1; omega))
          obtain ⟨ua383_0, uc383_0, rfl, ul383_0, ge383_0⟩ := Kd.FK_slice_open hMe383
          have hv383_0 := hcc383 0 _ rfl
          rw [Nat.add_zero, show ((Kd.slice 3 (Kd.int .i64))).sz = 1 from rfl, Nat.mul_one] at hv383_0
          replace hv383_0 := Option.some.inj (hv383_0.symm.trans hx383_0)
          injection hv383_0 with hva_ hvn_ hvc_
          rw [hva_] at ge383_0
          rw [hvc_] at ul383_0
          have HL383_0 := Aside0.mk (show Kd.V (Kd.int .i64) 3 _ w.heap.size _ _ (rd_L1 t376 x32_1) from Kd.V_mk ul383_0 ge383_0)
          clear hva_ hvn_ hvc_ ge383_0 ul383_0
          clear hcc383 hce383
          have HR383_0 := Aside0.mk hi383_0
          have HC383_0 := Aside0.mk hl383_0
          clear hi383_0 hl383_0
          replace p383 := eq_true p383
          replace q383 := eq_true q383
          go_wp2_with (first | (go_at_call 19; (with_reducible refine (gradineplain_Ints.calls k1 _ _ (rd_L1 t379 x32_1) _ _ (rd_L1 t376 x32_1) true _ ?side1 ?side2 ?side3 ?side4 A19.out).mono ?_); (case side1 => repeat (first | exact (by repeat (first | (with_reducible exact HR382_0.out) | (with_reducible refine Kd.C_alloc ?_ _) | (with_reducible refine Kd.C_drewN ?_ _) | (with_reducible refine Kd.C_drew ?_) | exact HR382_0.out)) | (with_reducible refine Kd.C_alloc ?_ _) | (with_reducible refine Kd.C_drewN ?_ _) | (with_reducible refine Kd.C_drew ?_))); (case side2 => exact HC382_0.out); (case side3 => repeat (first | exact (by repeat (first | (with_reducible exact HR383_0.out) | (with_reducible refine Kd.C_alloc ?_ _) | (with_reducible refine Kd.C_drewN ?_ _) | (with_reducible refine Kd.C_drew ?_) | exact HR383_0.out)) | (with_reducible refine Kd.C_alloc ?_ _) | (with_reducible refine Kd.C_drewN ?_ _) | (with_reducible refine Kd.C_drew ?_))); (case side4 => exact HC383_0.out); rintro e w' ⟨rfl, ⟨nd, rfl⟩⟩; (try first | exact ⟨rfl, _, World.drewN_drewN _ _ _⟩ | exact ⟨rfl, _, Eq.trans (World.drewN_drewN _ _ _) (congrArg (World.drewN _) (Nat.add_assoc _ _ _))⟩)))
          repeat (go_quiet (first | (go_at_call 19; (with_reducible refine (gradineplain_Ints.calls k1 _ _ (rd_L1 t379 x32_1) _ _ (rd_L1 t376 x32_1) true _ ?side1 ?side2 ?side3 ?side4 A19.out).mono ?_); (case side1 => repeat (first | exact (by repeat (first | (with_reducible exact HR382_0.out) | (with_reducible refine Kd.C_alloc ?_ _) | (with_reducible refine Kd.C_drewN ?_ _) | (with_reducible refine Kd.C_drew ?_) | exact HR382_0.out)) | (with_reducible refine Kd.C_alloc ?_ _) | (with_reducible refine Kd.C_drewN ?_ _) | (with_reducible refine Kd.C_drew ?_))); (case side2 => exact HC382_0.out); (case side3 => repeat (first | exact (by repeat (first | (with_reducible exact HR383_0.out) | (with_reducible refine Kd.C_alloc ?_ _) | (with_reducible refine Kd.C_drewN ?_ _) | (with_reducible refine Kd.C_drew ?_) | exact HR383_0.out)) | (with_reducible refine Kd.C_alloc ?_ _) | (with_reducible refine Kd.C_drewN ?_ _) | (with_reducible refine Kd.C_drew ?_))); (case side4 => exact HC383_0.out); rintro e w' ⟨rfl, ⟨nd, rfl⟩⟩; (try first | exact ⟨rfl, _, World.drewN_drewN _ _ _⟩ | exact ⟨rfl, _, Eq.trans (World.drewN_drewN _ _ _) (congrArg (World.drewN _) (Nat.add_assoc _ _ _))⟩))); try go_wp2_with (first | (go_at_call 19; (with_reducible refine (gradineplain_Ints.calls k1 _ _ (rd_L1 t379 x32_1) _ _ (rd_L1 t376 x32_1) true _ ?side1 ?side2 ?side3 ?side4 A19.out).mono ?_); (case side1 => repeat (first | exact (by repeat (first | (with_reducible exact HR382_0.out) | (with_reducible refine Kd.C_alloc ?_ _) | (with_reducible refine Kd.C_drewN ?_ _) | (with_reducible refine Kd.C_drew ?_) | exact HR382_0.out)) | (with_reducible refine Kd.C_alloc ?_ _) | (with_reducible refine Kd.C_drewN ?_ _) | (with_reducible refine Kd.C_drew ?_))); (case side2 => exact HC382_0.out); (case side3 => repeat (first | exact (by repeat (first | (with_reducible exact HR383_0.out) | (with_reducible refine Kd.C_alloc ?_ _) | (with_reducible refine Kd.C_drewN ?_ _) | (with_reducible refine Kd.C_drew ?_) | exact HR383_0.out)) | (with_reducible refine Kd.C_alloc ?_ _) | (with_reducible refine Kd.C_drewN ?_ _) | (with_reducible refine Kd.C_drew ?_))); (case side4 => exact HC383_0.out); rintro e w' ⟨rfl, ⟨nd, rfl⟩⟩; (try first | exact ⟨rfl, _, World.drewN_drewN _ _ _⟩ | exact ⟨rfl, _, Eq.trans (World.drewN_drewN _ _ _) (congrArg (World.drewN _) (Nat.add_assoc _ _ _))⟩))))
          go_roundg k1
          case measure => have := HK1.out; omega
          case rel => exact ⟨(wrap64 (x32_1 + 1)), (pF), H', ⟨by have := HK1.out; omega⟩, ⟨by (with_reducible repeat (first | apply Kd.N_alloc | apply Kd.N_drewN | apply Kd.N_drew)); exact HO_7.out⟩, ⟨by (with_reducible repeat (first | apply Kd.N_alloc | apply Kd.N_drewN | apply Kd.N_drew)); exact HO_8.out⟩, ⟨pB HB.out⟩⟩
         ·replace c20 := Bool.eq_false_iff.mpr c20
          subst c20
          have H1 : (some false) = some true := by rw [if_neg (show ¬ (false = true) by decide)] at H; exact H
          clear H
          have H := H1
          clear H1
          exact absurd H (by simp)
        ·rw [if_neg c18] at H
         exact absurd H (by simp)
       ·rw [if_neg c17] at H
        exact absurd H (by simp)
      ·rw [if_neg c16] at H
       exact absurd H (by simp)
     ·rw [if_neg c15] at H
      have c15b0 : decide (x32_1 < (t379.length : Int)) = false := decide_eq_false c15
      clear c15
      replace H := Option.bind_eq_some_iff.mp H
      obtain ⟨⟨t385, t386⟩, A210, H⟩ := H
      replace H : ((walk_Place.f k1 l0 l1).bind fun bt389 => ((walk_Next.f k1 l0 l1).bind fun bt391 => ((gradineref20_Place.f k1 l0 l1).bind fun t395 => (if a2 ≥ 0 then (if (t386 != (decide (a2 < (t376.length : Int)))) = true then (gradinelaw20_WalkTells.j1 k1 a2 t376 t385 t386 bt391.1 bt391.2 t395 true) else (if (bt389.2 != (decide (t395 ≥ 0))) = true then (gradinelaw20_WalkTells.j1 k1 a2 t376 t385 t386 bt391.1 bt391.2 t395 true) else (if bt389.1 = (mx t395 0) then (if t395 ≥ 0 then (gradinelaw20_WalkTells.j1 k1 a2 t376 t385 t386 bt391.1 bt391.2 t395 (bt391.2 != (decide (t395 < (wrap64 ((t376.length : Int) - 1)))))) else (gradinelaw20_WalkTells.j1 k1 a2 t376 t385 t386 bt391.1 bt391.2 t395 (bt391.2 != false))) else (gradinelaw20_WalkTells.j1 k1 a2 t376 t385 t386 bt391.1 bt391.2 t395 true)))) else (if (t386 != false) = true then (gradinelaw20_WalkTells.j1 k1 a2 t376 t385 t386 bt391.1 bt391.2 t395 true) else (if (bt389.2 != (decide (t395 ≥ 0))) = true then (gradinelaw20_WalkTells.j1 k1 a2 t376 t385 t386 bt391.1 bt391.2 t395 true) else (if bt389.1 = (mx t395 0) then (if t395 ≥ 0 then (gradinelaw20_WalkTells.j1 k1 a2 t376 t385 t386 bt391.1 bt391.2 t395 (bt391.2 != (decide (t395 < (wrap64 ((t376.length : Int) - 1)))))) else (gradinelaw20_WalkTells.j1 k1 a2 t376 t385 t386 bt391.1 bt391.2 t395 (bt391.2 != false))) else (gradinelaw20_WalkTells.j1 k1 a2 t376 t385 t386 bt391.1 bt391.2 t395 true)))))))) = some true := H
      have A21 := Aside0.mk A210
      clear A210
      replace H := Option.bind_eq_some_iff.mp H
      obtain ⟨⟨t389, t390⟩, A220, H⟩ := H
      replace H : ((walk_Next.f k1 l0 l1).bind fun bt391 => ((gradineref20_Place.f k1 l0 l1).bind fun t395 => (if a2 ≥ 0 then (if (t386 != (decide (a2 < (t376.length : Int)))) = true then (gradinelaw20_WalkTells.j1 k1 a2 t376 t385 t386 bt391.1 bt391.2 t395 true) else (if (t390 != (decide (t395 ≥ 0))) = true then (gradinelaw20_WalkTells.j1 k1 a2 t376 t385 t386 bt391.1 bt391.2 t395 true) else (if t389 = (mx t395 0) then (if t395 ≥ 0 then (gradinelaw20_WalkTells.j1 k1 a2 t376 t385 t386 bt391.1 bt391.2 t395 (bt391.2 != (decide (t395 < (wrap64 ((t376.length : Int) - 1)))))) else (gradinelaw20_WalkTells.j1 k1 a2 t376 t385 t386 bt391.1 bt391.2 t395 (bt391.2 != false))) else (gradinelaw20_WalkTells.j1 k1 a2 t376 t385 t386 bt391.1 bt391.2 t395 true)))) else (if (t386 != false) = true then (gradinelaw20_WalkTells.j1 k1 a2 t376 t385 t386 bt391.1 bt391.2 t395 true) else (if (t390 != (decide (t395 ≥ 0))) = true then (gradinelaw20_WalkTells.j1 k1 a2 t376 t385 t386 bt391.1 bt391.2 t395 true) else (if t389 = (mx t395 0) then (if t395 ≥ 0 then (gradinelaw20_WalkTells.j1 k1 a2 t376 t385 t386 bt391.1 bt391.2 t395 (bt391.2 != (decide (t395 < (wrap64 ((t376.length : Int) - 1)))))) else (gradinelaw20_WalkTells.j1 k1 a2 t376 t385 t386 bt391.1 bt391.2 t395 (bt391.2 != false))) else (gradinelaw20_WalkTells.j1 k1 a2 t376 t385 t386 bt391.1 bt391.2 t395 true))))))) = some true := H
      have A22 := Aside0.mk A220
      clear A220
      replace H := Option.bind_eq_some_iff.mp H
      obtain ⟨⟨t391, t392⟩, A230, H⟩ := H
      replace H : ((gradineref20_Place.f k1 l0 l1).bind fun t395 => (if a2 ≥ 0 then (if (t386 != (decide (a2 < (t376.length : Int)))) = true then (gradinelaw20_WalkTells.j1 k1 a2 t376 t385 t386 t391 t392 t395 true) else (if (t390 != (decide (t395 ≥ 0))) = true then (gradinelaw20_WalkTells.j1 k1 a2 t376 t385 t386 t391 t392 t395 true) else (if t389 = (mx t395 0) then (if t395 ≥ 0 then (gradinelaw20_WalkTells.j1 k1 a2 t376 t385 t386 t391 t392 t395 (t392 != (decide (t395 < (wrap64 ((t376.length : Int) - 1)))))) else (gradinelaw20_WalkTells.j1 k1 a2 t376 t385 t386 t391 t392 t395 (t392 != false))) else (gradinelaw20_WalkTells.j1 k1 a2 t376 t385 t386 t391 t392 t395 true)))) else (if (t386 != false) = true then (gradinelaw20_WalkTells.j1 k1 a2 t376 t385 t386 t391 t392 t395 true) else (if (t390 != (decide (t395 ≥ 0))) = true then (gradinelaw20_WalkTells.j1 k1 a2 t376 t385 t386 t391 t392 t395 true) else (if t389 = (mx t395 0) then (if t395 ≥ 0 then (gradinelaw20_WalkTells.j1 k1 a2 t376 t385 t386 t391 t392 t395 (t392 != (decide (t395 < (wrap64 ((t376.length : Int) - 1)))))) else (gradinelaw20_WalkTells.j1 k1 a2 t376 t385 t386 t391 t392 t395 (t392 != false))) else (gradinelaw20_WalkTells.j1 k1 a2 t376 t385 t386 t391 t392 t395 true)))))) = some true := H
      have A23 := Aside0.mk A230
      clear A230
      replace H := Option.bind_eq_some_iff.mp H
      obtain ⟨t395, A240, H⟩ := H
      replace H : (if a2 ≥ 0 then (if (t386 != (decide (a2 < (t376.length : Int)))) = true then (gradinelaw20_WalkTells.j1 k1 a2 t376 t385 t386 t391 t392 t395 true) else (if (t390 != (decide (t395 ≥ 0))) = true then (gradinelaw20_WalkTells.j1 k1 a2 t376 t385 t386 t391 t392 t395 true) else (if t389 = (mx t395 0) then (if t395 ≥ 0 then (gradinelaw20_WalkTells.j1 k1 a2 t376 t385 t386 t391 t392 t395 (t392 != (decide (t395 < (wrap64 ((t376.length : Int) - 1)))))) else (gradinelaw20_WalkTells.j1 k1 a2 t376 t385 t386 t391 t392 t395 (t392 != false))) else (gradinelaw20_WalkTells.j1 k1 a2 t376 t385 t386 t391 t392 t395 true)))) else (if (t386 != false) = true then (gradinelaw20_WalkTells.j1 k1 a2 t376 t385 t386 t391 t392 t395 true) else (if (t390 != (decide (t395 ≥ 0))) = true then (gradinelaw20_WalkTells.j1 k1 a2 t376 t385 t386 t391 t392 t395 true) else (if t389 = (mx t395 0) then (if t395 ≥ 0 then (gradinelaw20_WalkTells.j1 k1 a2 t376 t385 t386 t391 t392 t395 (t392 != (decide (t395 < (wrap64 ((t376.length : Int) - 1)))))) else (gradinelaw20_WalkTells.j1 k1 a2 t376 t385 t386 t391 t392 t395 (t392 != false))) else (gradinelaw20_WalkTells.j1 k1 a2 t376 t385 t386 t391 t392 t395 true))))) = some true := H
      have A24 := Aside0.mk A240
      clear A240
      have HC25 := Aside0.mk H
      clear H
      go_upto_region 17 with (first | (go_at_call 32; (with_reducible refine (walk_At.calls k1 _ _ l0 a2 t385 t386 _ ?side1 ?side2 A21.out).mono ?_); (case side1 => exact pC (Kd.C_below HR0.out HB.out)); (case side2 => exact HC0.out); rintro e w26 ⟨v387, rfl, ho0, hb⟩; have n0_ := Aside0.mk (Kd.N_elder' (by (with_reducible repeat (first | apply Kd.N_alloc | apply Kd.N_drewN | apply Kd.N_drew)); exact HO_7.out) (Kd.R_base ho0) hb); have n1_ := Aside0.mk (Kd.N_elder' (by (with_reducible repeat (first | apply Kd.N_alloc | apply Kd.N_drewN | apply Kd.N_drew)); exact HO_8.out) (Kd.R_base ho0) hb); have n2_ := Aside0.mk (Kd.R_lower ho0 (below_size (pB HB.out))); have n3_ := Aside0.mk (below_step (pB HB.out) hb); clear HO_7; clear HO_8; clear HB; have HO_7 := n0_; have HO_8 := n1_; have HO388 := n2_; have HB := n3_; clear n0_ n1_ n2_ n3_; (try clear hb); (try clear hb2); (try clear hk); (try clear hi); (try clear ho0)) | (go_at_call 33; (with_reducible refine (walk_Place.calls k1 _ _ l0 _ _ l1 t389 t390 _ ?side1 ?side2 ?side3 ?side4 A22.out).mono ?_); (case side1 => exact pC (Kd.C_below HR0.out HB.out)); (case side2 => exact HC0.out); (case side3 => exact pC (Kd.C_below HR1.out HB.out)); (case side4 => exact HC1.out); rintro e w' ⟨rfl, ⟨nd, rfl⟩⟩; (try first | exact ⟨rfl, _, World.drewN_drewN _ _ _⟩ | exact ⟨rfl, _, Eq.trans (World.drewN_drewN _ _ _) (congrArg (World.drewN _) (Nat.add_assoc _ _ _))⟩)) | (go_at_call 34; (with_reducible refine (walk_Next.calls k1 _ _ l0 _ _ l1 t391 t392 _ ?side1 ?side2 ?side3 ?side4 A23.out).mono ?_); (case side1 => exact pC (Kd.C_below HR0.out (pB HB.out))); (case side2 => exact HC0.out); (case side3 => exact pC (Kd.C_below HR1.out (pB HB.out))); (case side4 => exact HC1.out); rintro e w27 ⟨v393, rfl, ho0, hb⟩; have n0_ := Aside0.mk (Kd.N_elder' (by (with_reducible repeat (first | apply Kd.N_alloc | apply Kd.N_drewN | apply Kd.N_drew)); exact HO_7.out) (Kd.R_base ho0) hb); have n1_ := Aside0.mk (Kd.N_elder' (by (with_reducible repeat (first | apply Kd.N_alloc | apply Kd.N_drewN | apply Kd.N_drew)); exact HO_8.out) (Kd.R_base ho0) hb); have n2_ := Aside0.mk (Kd.R_elder' (pR HO388.out) (Kd.R_base ho0) hb); have n3_ := Aside0.mk (Kd.R_lower (Kd.R_new' ho0 (Kd.R_lt (pR HO388.out))) (below_size (pB HB.out))); have n4_ := Aside0.mk (below_step (pB HB.out) hb); clear HO_7; clear HO_8; clear HO388; clear HB; have HO_7 := n0_; have HO_8 := n1_; have HO388 := n2_; have HO394 := n3_; have HB := n4_; clear n0_ n1_ n2_ n3_ n4_; (try clear hb); (try clear hb2); (try clear hk); (try clear hi); (try clear ho0)) | (go_at_call 35; (with_reducible refine (gradineref20_Place.calls k1 _ _ l0 _ _ l1 t395 _ ?side1 ?side2 ?side3 ?side4 A24.out).mono ?_); (case side1 => exact pC (Kd.C_below HR0.out HB.out)); (case side2 => exact HC0.out); (case side3 => exact pC (Kd.C_below HR1.out HB.out)); (case side4 => exact HC1.out); rintro e w28 ⟨rfl, hb⟩; have n0_ := Aside0.mk (Kd.N_below (by (with_reducible repeat (first | apply Kd.N_alloc | apply Kd.N_drewN | apply Kd.N_drew)); exact HO_7.out) hb); have n1_ := Aside0.mk (Kd.N_below (by (with_reducible repeat (first | apply Kd.N_alloc | apply Kd.N_drewN | apply Kd.N_drew)); exact HO_8.out) hb); have n2_ := Aside0.mk (Kd.R_below (pR HO388.out) hb); have n3_ := Aside0.mk (Kd.R_below (pR HO394.out) hb); have n4_ := Aside0.mk (below_step (pB HB.out) hb); clear HO_7; clear HO_8; clear HO388; clear HO394; clear HB; have HO_7 := n0_; have HO_8 := n1_; have HO388 := n2_; have HO394 := n3_; have HB := n4_; clear n0_ n1_ n2_ n3_ n4_; (try clear hb); (try clear hb2); (try clear hk); (try clear hi)))
      repeat (go_quiet (first | (go_at_call 32; (with_reducible refine (walk_At.calls k1 _ _ l0 a2 t385 t386 _ ?side1 ?side2 A21.out).mono ?_); (case side1 => exact pC (Kd.C_below HR0.out HB.out)); (case side2 => exact HC0.out); rintro e w26 ⟨v387, rfl, ho0, hb⟩; have n0_ := Aside0.mk (Kd.N_elder' (by (with_reducible repeat (first | apply Kd.N_alloc | apply Kd.N_drewN | apply Kd.N_drew)); exact HO_7.out) (Kd.R_base ho0) hb); have n1_ := Aside0.mk (Kd.N_elder' (by (with_reducible repeat (first | apply Kd.N_alloc | apply Kd.N_drewN | apply Kd.N_drew)); exact HO_8.out) (Kd.R_base ho0) hb); have n2_ := Aside0.mk (Kd.R_lower ho0 (below_size (pB HB.out))); have n3_ := Aside0.mk (below_step (pB HB.out) hb); clear HO_7; clear HO_8; clear HB; have HO_7 := n0_; have HO_8 := n1_; have HO388 := n2_; have HB := n3_; clear n0_ n1_ n2_ n3_; (try clear hb); (try clear hb2); (try clear hk); (try clear hi); (try clear ho0)) | (go_at_call 33; (with_reducible refine (walk_Place.calls k1 _ _ l0 _ _ l1 t389 t390 _ ?side1 ?side2 ?side3 ?side4 A22.out).mono ?_); (case side1 => exact pC (Kd.C_below HR0.out HB.out)); (case side2 => exact HC0.out); (case side3 => exact pC (Kd.C_below HR1.out HB.out)); (case side4 => exact HC1.out); rintro e w' ⟨rfl, ⟨nd, rfl⟩⟩; (try first | exact ⟨rfl, _, World.drewN_drewN _ _ _⟩ | exact ⟨rfl, _, Eq.trans (World.drewN_drewN _ _ _) (congrArg (World.drewN _) (Nat.add_assoc _ _ _))⟩)) | (go_at_call 34; (with_reducible refine (walk_Next.calls k1 _ _ l0 _ _ l1 t391 t392 _ ?side1 ?side2 ?side3 ?side4 A23.out).mono ?_); (case side1 => exact pC (Kd.C_below HR0.out (pB HB.out))); (case side2 => exact HC0.out); (case side3 => exact pC (Kd.C_below HR1.out (pB HB.out))); (case side4 => exact HC1.out); rintro e w27 ⟨v393, rfl, ho0, hb⟩; have n0_ := Aside0.mk (Kd.N_elder' (by (with_reducible repeat (first | apply Kd.N_alloc | apply Kd.N_drewN | apply Kd.N_drew)); exact HO_7.out) (Kd.R_base ho0) hb); have n1_ := Aside0.mk (Kd.N_elder' (by (with_reducible repeat (first | apply Kd.N_alloc | apply Kd.N_drewN | apply Kd.N_drew)); exact HO_8.out) (Kd.R_base ho0) hb); have n2_ := Aside0.mk (Kd.R_elder' (pR HO388.out) (Kd.R_base ho0) hb); have n3_ := Aside0.mk (Kd.R_lower (Kd.R_new' ho0 (Kd.R_lt (pR HO388.out))) (below_size (pB HB.out))); have n4_ := Aside0.mk (below_step (pB HB.out) hb); clear HO_7; clear HO_8; clear HO388; clear HB; have HO_7 := n0_; have HO_8 := n1_; have HO388 := n2_; have HO394 := n3_; have HB := n4_; clear n0_ n1_ n2_ n3_ n4_; (try clear hb); (try clear hb2); (try clear hk); (try clear hi); (try clear ho0)) | (go_at_call 35; (with_reducible refine (gradineref20_Place.calls k1 _ _ l0 _ _ l1 t395 _ ?side1 ?side2 ?side3 ?side4 A24.out).mono ?_); (case side1 => exact pC (Kd.C_below HR0.out HB.out)); (case side2 => exact HC0.out); (case side3 => exact pC (Kd.C_below HR1.out HB.out)); (case side4 => exact HC1.out); rintro e w28 ⟨rfl, hb⟩; have n0_ := Aside0.mk (Kd.N_below (by (with_reducible repeat (first | apply Kd.N_alloc | apply Kd.N_drewN | apply Kd.N_drew)); exact HO_7.out) hb); have n1_ := Aside0.mk (Kd.N_below (by (with_reducible repeat (first | apply Kd.N_alloc | apply Kd.N_drewN | apply Kd.N_drew)); exact HO_8.out) hb); have n2_ := Aside0.mk (Kd.R_below (pR HO388.out) hb); have n3_ := Aside0.mk (Kd.R_below (pR HO394.out) hb); have n4_ := Aside0.mk (below_step (pB HB.out) hb); clear HO_7; clear HO_8; clear HO388; clear HO394; clear HB; have HO_7 := n0_; have HO_8 := n1_; have HO388 := n2_; have HO394 := n3_; have HB := n4_; clear n0_ n1_ n2_ n3_ n4_; (try clear hb); (try clear hb2); (try clear hk); (try clear hi))); go_upto_region 17 with (first | (go_at_call 32; (with_reducible refine (walk_At.calls k1 _ _ l0 a2 t385 t386 _ ?side1 ?side2 A21.out).mono ?_); (case side1 => exact pC (Kd.C_below HR0.out HB.out)); (case side2 => exact HC0.out); rintro e w26 ⟨v387, rfl, ho0, hb⟩; have n0_ := Aside0.mk (Kd.N_elder' (by (with_reducible repeat (first | apply Kd.N_alloc | apply Kd.N_drewN | apply Kd.N_drew)); exact HO_7.out) (Kd.R_base ho0) hb); have n1_ := Aside0.mk (Kd.N_elder' (by (with_reducible repeat (first | apply Kd.N_alloc | apply Kd.N_drewN | apply Kd.N_drew)); exact HO_8.out) (Kd.R_base ho0) hb); have n2_ := Aside0.mk (Kd.R_lower ho0 (below_size (pB HB.out))); have n3_ := Aside0.mk (below_step (pB HB.out) hb); clear HO_7; clear HO_8; clear HB; have HO_7 := n0_; have HO_8 := n1_; have HO388 := n2_; have HB := n3_; clear n0_ n1_ n2_ n3_; (try clear hb); (try clear hb2); (try clear hk); (try clear hi); (try clear ho0)) | (go_at_call 33; (with_reducible refine (walk_Place.calls k1 _ _ l0 _ _ l1 t389 t390 _ ?side1 ?side2 ?side3 ?side4 A22.out).mono ?_); (case side1 => exact pC (Kd.C_below HR0.out HB.out)); (case side2 => exact HC0.out); (case side3 => exact pC (Kd.C_below HR1.out HB.out)); (case side4 => exact HC1.out); rintro e w' ⟨rfl, ⟨nd, rfl⟩⟩; (try first | exact ⟨rfl, _, World.drewN_drewN _ _ _⟩ | exact ⟨rfl, _, Eq.trans (World.drewN_drewN _ _ _) (congrArg (World.drewN _) (Nat.add_assoc _ _ _))⟩)) | (go_at_call 34; (with_reducible refine (walk_Next.calls k1 _ _ l0 _ _ l1 t391 t392 _ ?side1 ?side2 ?side3 ?side4 A23.out).mono ?_); (case side1 => exact pC (Kd.C_below HR0.out (pB HB.out))); (case side2 => exact HC0.out); (case side3 => exact pC (Kd.C_below HR1.out (pB HB.out))); (case side4 => exact HC1.out); rintro e w27 ⟨v393, rfl, ho0, hb⟩; have n0_ := Aside0.mk (Kd.N_elder' (by (with_reducible repeat (first | apply Kd.N_alloc | apply Kd.N_drewN | apply Kd.N_drew)); exact HO_7.out) (Kd.R_base ho0) hb); have n1_ := Aside0.mk (Kd.N_elder' (by (with_reducible repeat (first | apply Kd.N_alloc | apply Kd.N_drewN | apply Kd.N_drew)); exact HO_8.out) (Kd.R_base ho0) hb); have n2_ := Aside0.mk (Kd.R_elder' (pR HO388.out) (Kd.R_base ho0) hb); have n3_ := Aside0.mk (Kd.R_lower (Kd.R_new' ho0 (Kd.R_lt (pR HO388.out))) (below_size (pB HB.out))); have n4_ := Aside0.mk (below_step (pB HB.out) hb); clear HO_7; clear HO_8; clear HO388; clear HB; have HO_7 := n0_; have HO_8 := n1_; have HO388 := n2_; have HO394 := n3_; have HB := n4_; clear n0_ n1_ n2_ n3_ n4_; (try clear hb); (try clear hb2); (try clear hk); (try clear hi); (try clear ho0)) | (go_at_call 35; (with_reducible refine (gradineref20_Place.calls k1 _ _ l0 _ _ l1 t395 _ ?side1 ?side2 ?side3 ?side4 A24.out).mono ?_); (case side1 => exact pC (Kd.C_below HR0.out HB.out)); (case side2 => exact HC0.out); (case side3 => exact pC (Kd.C_below HR1.out HB.out)); (case side4 => exact HC1.out); rintro e w28 ⟨rfl, hb⟩; have n0_ := Aside0.mk (Kd.N_below (by (with_reducible repeat (first | apply Kd.N_alloc | apply Kd.N_drewN | apply Kd.N_drew)); exact HO_7.out) hb); have n1_ := Aside0.mk (Kd.N_below (by (with_reducible repeat (first | apply Kd.N_alloc | apply Kd.N_drewN | apply Kd.N_drew)); exact HO_8.out) hb); have n2_ := Aside0.mk (Kd.R_below (pR HO388.out) hb); have n3_ := Aside0.mk (Kd.R_below (pR HO394.out) hb); have n4_ := Aside0.mk (below_step (pB HB.out) hb); clear HO_7; clear HO_8; clear HO388; clear HO394; clear HB; have HO_7 := n0_; have HO_8 := n1_; have HO388 := n2_; have HO394 := n3_; have HB := n4_; clear n0_ n1_ n2_ n3_ n4_; (try clear hb); (try clear hb2); (try clear hk); (try clear hi))))
      (try simp only [Act.put, List.setIfInBounds_toArray, List.set_cons_zero, List.set_cons_succ])
      go_cut [101] (fun v101 wc => ∃ (kq : Nat) (x101_24 : Bool), v101 = .bool x101_24 ∧ Aside0 (gradinelaw20_WalkTells.j1 kq a2 t376 t385 t386 t391 t392 t395 x101_24 = some true) ∧ Aside0 (kq ≤ k1) ∧ Aside0 (Kd.N (Kd.slice 3 (Kd.int .i64)) 22 wc w.heap.size (fun k_ => some k_ ≠ (v387 : Value).ownBlock ∧ some k_ ≠ (v393 : Value).ownBlock) (.slice Ao14 t376.length co14) t376) ∧ Aside0 (Kd.R (Kd.int .i64) 3 wc w.heap.size (fun k_ => some k_ ≠ (v393 : Value).ownBlock) v387 t385) ∧ Aside0 (Kd.R (Kd.int .i64) 3 wc w.heap.size (fun k_ => some k_ ≠ (v387 : Value).ownBlock) v393 t391) ∧ Aside0 (Below w.heap.size w wc))
      case first =>
       have H := HC25.out
       clear HC25
       by_cases c29 : a2 ≥ 0
       ·rw [if_pos c29] at H
        have c29b0 : decide (0 ≤ a2) = true := decide_eq_true c29
        clear c29
        (first | rw [c29b0] | (simp only [i64_w, i32_w]; rw [c29b0]) | skip)
        by_cases c30 : (t386 != (decide (a2 < (t376.length : Int)))) = true
        ·rw [if_pos c30] at H
         have c30b0 : (t386 != (decide (a2 < (t376.length : Int)))) = true := c30
         (try (have c30b1 : decide (t386 = (decide (a2 < (t376.length : Int)))) = false := by simpa using c30))
         (try (have c30b2 : (t386 == (decide (a2 < (t376.length : Int)))) = false := by simpa using c30))
         (try (have c30b3 : ¬ (t386 = (decide (a2 < (t376.length : Int)))) := by simpa using c30))
         clear c30
         have H' := Aside0.mk H
         clear H
         go_wp2
         repeat (go_quiet (fail); try go_wp2)
         go_meet
         case rel => exact ⟨_, (true), (pF), H', ⟨by have := HK1.out; first | omega | exact Nat.le_refl _⟩, ⟨by (with_reducible repeat (first | apply Kd.N_alloc | apply Kd.N_drewN | apply Kd.N_drew)); exact Kd.N_mono HO_7.out (fun _ hk => ⟨hk.1.2, hk.2⟩)⟩, ⟨by (with_reducible repeat (first | apply Kd.R_alloc | apply Kd.R_drewN | apply Kd.R_drew)); exact Kd.R_mono HO388.out (fun _ hk => hk.2)⟩, ⟨by (with_reducible repeat (first | apply Kd.R_alloc | apply Kd.R_drewN | apply Kd.R_drew)); exact Kd.R_mono HO394.out (fun _ hk => hk.2)⟩, ⟨pB HB.out⟩⟩
        ·rw [if_neg c30] at H
         have c30b0 : (t386 != (decide (a2 < (t376.length : Int)))) = false := by simpa using c30
         (try (have c30b1 : decide (t386 = (decide (a2 < (t376.length : Int)))) = true := by simpa using c30))
         (try (have c30b2 : (t386 == (decide (a2 < (t376.length : Int)))) = true := by simpa using c30))
         clear c30
         by_cases c31 : (t390 != (decide (t395 ≥ 0))) = true
         ·rw [if_pos c31] at H
          have c31b0 : (t390 != (decide (t395 ≥ 0))) = true := c31
          (try (have c31b1 : decide (t390 = (decide (t395 ≥ 0))) = false := by simpa using c31))
          (try (have c31b2 : (t390 == (decide (t395 ≥ 0))) = false := by simpa using c31))
          (try (have c31b3 : ¬ (t390 = (decide (t395 ≥ 0))) := by simpa using c31))
          clear c31
          have H' := Aside0.mk H
          clear H
          go_wp2
          repeat (go_quiet (fail); try go_wp2)
          go_meet
          case rel => exact ⟨_, (true), (pF), H', ⟨by have := HK1.out; first | omega | exact Nat.le_refl _⟩, ⟨by (with_reducible repeat (first | apply Kd.N_alloc | apply Kd.N_drewN | apply Kd.N_drew)); exact Kd.N_mono HO_7.out (fun _ hk => ⟨hk.1.2, hk.2⟩)⟩, ⟨by (with_reducible repeat (first | apply Kd.R_alloc | apply Kd.R_drewN | apply Kd.R_drew)); exact Kd.R_mono HO388.out (fun _ hk => hk.2)⟩, ⟨by (with_reducible repeat (first | apply Kd.R_alloc | apply Kd.R_drewN | apply Kd.R_drew)); exact Kd.R_mono HO394.out (fun _ hk => hk.2)⟩, ⟨pB HB.out⟩⟩
         ·rw [if_neg c31] at H
          have c31b0 : (t390 != (decide (t395 ≥ 0))) = false := by simpa using c31
          (try (have c31b1 : decide (t390 = (decide (t395 ≥ 0))) = true := by simpa using c31))
          (try (have c31b2 : (t390 == (decide (t395 ≥ 0))) = true := by simpa using c31))
          clear c31
          obtain ⟨ji32, hji32⟩ : ∃ j_ : Int, (mx t395 0) = j_ := ⟨_, rfl⟩
          replace H : (if t389 = (ji32) then (if t395 ≥ 0 then (gradinelaw20_WalkTells.j1 k1 a2 t376 t385 t386 t391 t392 t395 (t392 != (decide (t395 < (wrap64 ((t376.length : Int) - 1)))))) else (gradinelaw20_WalkTells.j1 k1 a2 t376 t385 t386 t391 t392 t395 (t392 != false))) else (gradinelaw20_WalkTells.j1 k1 a2 t376 t385 t386 t391 t392 t395 true)) = some true := by first | (rw [hji32] at H; exact H) | (simp only [hji32] at H ⊢; exact H)
          (try (have hji32l : 0 ≤ ji32 := by (rw [← hji32]; unfold mx; (repeat' split) <;> omega)))
          (try (have hji32m : 0 ≤ ji32 := by omega))
          have hji32_ : (if t395 < 0 then 0 else t395) = ji32 := hji32
          by_cases c33 : t389 = (ji32)
          ·rw [if_pos c33] at H
           have c33b0 : (t389 == (ji32)) = true := beq_iff_eq.mpr c33
           have c33b1 : (t389 != (ji32)) = false := bne_eq_false_iff_eq.mpr c33
           clear c33
           by_cases c34 : t395 ≥ 0
           ·rw [if_pos c34] at H
            have c34b0 : decide (0 ≤ t395) = true := decide_eq_true c34
            clear c34
            have H' := Aside0.mk H
            clear H
            have ht_ : t390 = true := by simpa [c34b0] using c31b0
            subst ht_
            go_wp2
            repeat (go_quiet (fail); try go_wp2)
            go_meet
            case rel => exact ⟨_, ((t392 != (decide (t395 < (wrap64 ((t376.length : Int) - 1)))))), (pF), H', ⟨by have := HK1.out; first | omega | exact Nat.le_refl _⟩, ⟨by (with_reducible repeat (first | apply Kd.N_alloc | apply Kd.N_drewN | apply Kd.N_drew)); exact Kd.N_mono HO_7.out (fun _ hk => ⟨hk.1.2, hk.2⟩)⟩, ⟨by (with_reducible repeat (first | apply Kd.R_alloc | apply Kd.R_drewN | apply Kd.R_drew)); exact Kd.R_mono HO388.out (fun _ hk => hk.2)⟩, ⟨by (with_reducible repeat (first | apply Kd.R_alloc | apply Kd.R_drewN | apply Kd.R_drew)); exact Kd.R_mono HO394.out (fun _ hk => hk.2)⟩, ⟨pB HB.out⟩⟩
           ·rw [if_neg c34] at H
            have c34b0 : decide (0 ≤ t395) = false := decide_eq_false c34
            clear c34
            have H' := Aside0.mk H
            clear H
            have ht_ : t390 = false := by simpa [c34b0] using c31b0
            subst ht_
            go_wp2
            repeat (go_quiet (fail); try go_wp2)
            go_meet
            case rel => exact ⟨_, ((t392 != false)), (pF), H', ⟨by have := HK1.out; first | omega | exact Nat.le_refl _⟩, ⟨by (with_reducible repeat (first | apply Kd.N_alloc | apply Kd.N_drewN | apply Kd.N_drew)); exact Kd.N_mono HO_7.out (fun _ hk => ⟨hk.1.2, hk.2⟩)⟩, ⟨by (with_reducible repeat (first | apply Kd.R_alloc | apply Kd.R_drewN | apply Kd.R_drew)); exact Kd.R_mono HO388.out (fun _ hk => hk.2)⟩, ⟨by (with_reducible repeat (first | apply Kd.R_alloc | apply Kd.R_drewN | apply Kd.R_drew)); exact Kd.R_mono HO394.out (fun _ hk => hk.2)⟩, ⟨pB HB.out⟩⟩
          ·rw [if_neg c33] at H
           have c33b0 : (t389 == (ji32)) = false := beq_eq_false_iff_ne.mpr c33
           have c33b1 : (t389 != (ji32)) = true := bne_iff_ne.mpr c33
           have H' := Aside0.mk H
           clear H
           go_wp2
           repeat (go_quiet (fail); try go_wp2)
           go_meet
           case rel => exact ⟨_, (true), (pF), H', ⟨by have := HK1.out; first | omega | exact Nat.le_refl _⟩, ⟨by (with_reducible repeat (first | apply Kd.N_alloc | apply Kd.N_drewN | apply Kd.N_drew)); exact Kd.N_mono HO_7.out (fun _ hk => ⟨hk.1.2, hk.2⟩)⟩, ⟨by (with_reducible repeat (first | apply Kd.R_alloc | apply Kd.R_drewN | apply Kd.R_drew)); exact Kd.R_mono HO388.out (fun _ hk => hk.2)⟩, ⟨by (with_reducible repeat (first | apply Kd.R_alloc | apply Kd.R_drewN | apply Kd.R_drew)); exact Kd.R_mono HO394.out (fun _ hk => hk.2)⟩, ⟨pB HB.out⟩⟩
       ·rw [if_neg c29] at H
        have c29b0 : decide (0 ≤ a2) = false := decide_eq_false c29
        clear c29
        (first | rw [c29b0] | (simp only [i64_w, i32_w]; rw [c29b0]) | skip)
        by_cases c35 : (t386 != false) = true
        ·rw [if_pos c35] at H
         have c35b0 : (t386 != false) = true := c35
         (try (have c35b1 : decide (t386 = false) = false := by simpa using c35))
         (try (have c35b2 : (t386 == false) = false := by simpa using c35))
         (try (have c35b3 : ¬ (t386 = false) := by simpa using c35))
         clear c35
         have H' := Aside0.mk H
         clear H
         go_wp2
         repeat (go_quiet (fail); try go_wp2)
         go_meet
         case rel => exact ⟨_, (true), (pF), H', ⟨by have := HK1.out; first | omega | exact Nat.le_refl _⟩, ⟨by (with_reducible repeat (first | apply Kd.N_alloc | apply Kd.N_drewN | apply Kd.N_drew)); exact Kd.N_mono HO_7.out (fun _ hk => ⟨hk.1.2, hk.2⟩)⟩, ⟨by (with_reducible repeat (first | apply Kd.R_alloc | apply Kd.R_drewN | apply Kd.R_drew)); exact Kd.R_mono HO388.out (fun _ hk => hk.2)⟩, ⟨by (with_reducible repeat (first | apply Kd.R_alloc | apply Kd.R_drewN | apply Kd.R_drew)); exact Kd.R_mono HO394.out (fun _ hk => hk.2)⟩, ⟨pB HB.out⟩⟩
        ·rw [if_neg c35] at H
         have c35b0 : (t386 != false) = false := by simpa using c35
         (try (have c35b1 : decide (t386 = false) = true := by simpa using c35))
         (try (have c35b2 : (t386 == false) = true := by simpa using c35))
         clear c35
         by_cases c36 : (t390 != (decide (t395 ≥ 0))) = true
         ·rw [if_pos c36] at H
          have c36b0 : (t390 != (decide (t395 ≥ 0))) = true := c36
          (try (have c36b1 : decide (t390 = (decide (t395 ≥ 0))) = false := by simpa using c36))
          (try (have c36b2 : (t390 == (decide (t395 ≥ 0))) = false := by simpa using c36))
          (try (have c36b3 : ¬ (t390 = (decide (t395 ≥ 0))) := by simpa using c36))
          clear c36
          have H' := Aside0.mk H
          clear H
          go_wp2
          repeat (go_quiet (fail); try go_wp2)
          go_meet
          case rel => exact ⟨_, (true), (pF), H', ⟨by have := HK1.out; first | omega | exact Nat.le_refl _⟩, ⟨by (with_reducible repeat (first | apply Kd.N_alloc | apply Kd.N_drewN | apply Kd.N_drew)); exact Kd.N_mono HO_7.out (fun _ hk => ⟨hk.1.2, hk.2⟩)⟩, ⟨by (with_reducible repeat (first | apply Kd.R_alloc | apply Kd.R_drewN | apply Kd.R_drew)); exact Kd.R_mono HO388.out (fun _ hk => hk.2)⟩, ⟨by (with_reducible repeat (first | apply Kd.R_alloc | apply Kd.R_drewN | apply Kd.R_drew)); exact Kd.R_mono HO394.out (fun _ hk => hk.2)⟩, ⟨pB HB.out⟩⟩
         ·rw [if_neg c36] at H
          have c36b0 : (t390 != (decide (t395 ≥ 0))) = false := by simpa using c36
          (try (have c36b1 : decide (t390 = (decide (t395 ≥ 0))) = true := by simpa using c36))
          (try (have c36b2 : (t390 == (decide (t395 ≥ 0))) = true := by simpa using c36))
          clear c36
          obtain ⟨ji37, hji37⟩ : ∃ j_ : Int, (mx t395 0) = j_ := ⟨_, rfl⟩
          replace H : (if t389 = (ji37) then (if t395 ≥ 0 then (gradinelaw20_WalkTells.j1 k1 a2 t376 t385 t386 t391 t392 t395 (t392 != (decide (t395 < (wrap64 ((t376.length : Int) - 1)))))) else (gradinelaw20_WalkTells.j1 k1 a2 t376 t385 t386 t391 t392 t395 (t392 != false))) else (gradinelaw20_WalkTells.j1 k1 a2 t376 t385 t386 t391 t392 t395 true)) = some true := by first | (rw [hji37] at H; exact H) | (simp only [hji37] at H ⊢; exact H)
          (try (have hji37l : 0 ≤ ji37 := by (rw [← hji37]; unfold mx; (repeat' split) <;> omega)))
          (try (have hji37m : 0 ≤ ji37 := by omega))
          have hji37_ : (if t395 < 0 then 0 else t395) = ji37 := hji37
          by_cases c38 : t389 = (ji37)
          ·rw [if_pos c38] at H
           have c38b0 : (t389 == (ji37)) = true := beq_iff_eq.mpr c38
           have c38b1 : (t389 != (ji37)) = false := bne_eq_false_iff_eq.mpr c38
           clear c38
           by_cases c39 : t395 ≥ 0
           ·rw [if_pos c39] at H
            have c39b0 : decide (0 ≤ t395) = true := decide_eq_true c39
            clear c39
            have H' := Aside0.mk H
            clear H
            have ht_ : t390 = true := by simpa [c39b0] using c36b0
            subst ht_
            go_wp2
            repeat (go_quiet (fail); try go_wp2)
            go_meet
            case rel => exact ⟨_, ((t392 != (decide (t395 < (wrap64 ((t376.length : Int) - 1)))))), (pF), H', ⟨by have := HK1.out; first | omega | exact Nat.le_refl _⟩, ⟨by (with_reducible repeat (first | apply Kd.N_alloc | apply Kd.N_drewN | apply Kd.N_drew)); exact Kd.N_mono HO_7.out (fun _ hk => ⟨hk.1.2, hk.2⟩)⟩, ⟨by (with_reducible repeat (first | apply Kd.R_alloc | apply Kd.R_drewN | apply Kd.R_drew)); exact Kd.R_mono HO388.out (fun _ hk => hk.2)⟩, ⟨by (with_reducible repeat (first | apply Kd.R_alloc | apply Kd.R_drewN | apply Kd.R_drew)); exact Kd.R_mono HO394.out (fun _ hk => hk.2)⟩, ⟨pB HB.out⟩⟩
           ·rw [if_neg c39] at H
            have c39b0 : decide (0 ≤ t395) = false := decide_eq_false c39
            clear c39
            have H' := Aside0.mk H
            clear H
            have ht_ : t390 = false := by simpa [c39b0] using c36b0
            subst ht_
            go_wp2
            repeat (go_quiet (fail); try go_wp2)
            go_meet
            case rel => exact ⟨_, ((t392 != false)), (pF), H', ⟨by have := HK1.out; first | omega | exact Nat.le_refl _⟩, ⟨by (with_reducible repeat (first | apply Kd.N_alloc | apply Kd.N_drewN | apply Kd.N_drew)); exact Kd.N_mono HO_7.out (fun _ hk => ⟨hk.1.2, hk.2⟩)⟩, ⟨by (with_reducible repeat (first | apply Kd.R_alloc | apply Kd.R_drewN | apply Kd.R_drew)); exact Kd.R_mono HO388.out (fun _ hk => hk.2)⟩, ⟨by (with_reducible repeat (first | apply Kd.R_alloc | apply Kd.R_drewN | apply Kd.R_drew)); exact Kd.R_mono HO394.out (fun _ hk => hk.2)⟩, ⟨pB HB.out⟩⟩
          ·rw [if_neg c38] at H
           have c38b0 : (t389 == (ji37)) = false := beq_eq_false_iff_ne.mpr c38
           have c38b1 : (t389 != (ji37)) = true := bne_iff_ne.mpr c38
           have H' := Aside0.mk H
           clear H
           go_wp2
           repeat (go_quiet (fail); try go_wp2)
           go_meet
           case rel => exact ⟨_, (true), (pF), H', ⟨by have := HK1.out; first | omega | exact Nat.le_refl _⟩, ⟨by (with_reducible repeat (first | apply Kd.N_alloc | apply Kd.N_drewN | apply Kd.N_drew)); exact Kd.N_mono HO_7.out (fun _ hk => ⟨hk.1.2, hk.2⟩)⟩, ⟨by (with_reducible repeat (first | apply Kd.R_alloc | apply Kd.R_drewN | apply Kd.R_drew)); exact Kd.R_mono HO388.out (fun _ hk => hk.2)⟩, ⟨by (with_reducible repeat (first | apply Kd.R_alloc | apply Kd.R_drewN | apply Kd.R_drew)); exact Kd.R_mono HO394.out (fun _ hk => hk.2)⟩, ⟨pB HB.out⟩⟩
      case rest =>
       clear HC25
       try clear c1
       try clear c2
       try clear p2
       try clear c3
       try clear p3
       try clear q3
       try clear hx3
       try clear c5
       try clear p6
       try clear c7
       try clear c10
       try clear c10b0
       try clear c10b1
       try clear c10b2
       try clear c15
       try clear c15b0
       try clear c16
       try clear c16b0
       try clear c17
       try clear c17b0
       try clear c18
       try clear c18b0
       try clear c20
       try clear c29
       try clear c29b0
       try clear c30
       try clear c30b0
       try clear c30b1
       try clear c30b2
       try clear c31
       try clear c31b0
       try clear c31b1
       try clear c31b2
       try clear c33
       try clear c33b0
       try clear c33b1
       try clear c34
       try clear c34b0
       try clear c35
       try clear c35b0
       try clear c35b1
       try clear c35b2
       try clear c36
       try clear c36b0
       try clear c36b1
       try clear c36b2
       try clear c38
       try clear c38b0
       try clear c38b1
       try clear p38
       try clear q38
       try clear hx38
       try clear c39
       try clear c39b0
       try clear hx382_0
       try clear hx383_0
       try clear p2
       try clear p382
       try clear p383
       try clear q382
       try clear q383
       obtain ⟨kq, x101_24, rfl, HA, HJ24, HO_7, HO_10, HO_14, HB⟩ := hcut
       cases kq with
       | zero => exact absurd HA.out (by simp [gradinelaw20_WalkTells.j1])
       | succ kj24 =>
        have H := HA.out
        clear HA
        simp only [gradinelaw20_WalkTells.j1] at H
        by_cases c40 : x101_24 = true
        ·subst c40
         have H1 : (some false) = some true := by rw [if_pos rfl] at H; exact H
         clear H
         have H := H1
         clear H1
         exact absurd H (by simp)
        ·replace c40 := Bool.eq_false_iff.mpr c40
         subst c40
         have H1 : (if t386 = true then (if 0 ≤ a2 then (if a2 < (t376.length : Int) then ((gradineplain_Ints.f kj24 t385 (rd_L1 t376 a2)).bind fun t397 => (if t397 = true then (if t392 = true then (if 0 ≤ (wrap64 (t395 + 1)) then (if (wrap64 (t395 + 1)) < (t376.length : Int) then ((gradineplain_Ints.f kj24 t391 (rd_L1 t376 (wrap64 (t395 + 1)))).bind fun t399 => (if t399 = true then ((gradinelaw20_same.f kj24).bind fun t400 => (some t400)) else (some false))) else (none)) else (none)) else (if (t391.length : Int) > 0 then (some false) else ((gradinelaw20_same.f kj24).bind fun t401 => (some t401)))) else (some false))) else (none)) else (none)) else (if (t385.length : Int) > 0 then (some false) else (if t392 = true then (if 0 ≤ (wrap64 (t395 + 1)) then (if (wrap64 (t395 + 1)) < (t376.length : Int) then ((gradineplain_Ints.f kj24 t391 (rd_L1 t376 (wrap64 (t395 + 1)))).bind fun t403 => (if t403 = true then ((gradinelaw20_same.f kj24).bind fun t404 => (some t404)) else (some false))) else (none)) else (none)) else (if (t391.length : Int) > 0 then (some false) else ((gradinelaw20_same.f kj24).bind fun t405 => (some t405)))))) = some true := by rw [if_neg (show ¬ (false = true) by decide)] at H; exact H
         clear H
         have H := H1
         clear H1
         by_cases c41 : t386 = true
         ·subst c41
          have H1 : (if 0 ≤ a2 then (if a2 < (t376.length : Int) then ((gradineplain_Ints.f kj24 t385 (rd_L1 t376 a2)).bind fun t397 => (if t397 = true then (if t392 = true then (if 0 ≤ (wrap64 (t395 + 1)) then (if (wrap64 (t395 + 1)) < (t376.length : Int) then ((gradineplain_Ints.f kj24 t391 (rd_L1 t376 (wrap64 (t395 + 1)))).bind fun t399 => (if t399 = true then ((gradinelaw20_same.f kj24).bind fun t400 => (some t400)) else (some false))) else (none)) else (none)) else (if (t391.length : Int) > 0 then (some false) else ((gradinelaw20_same.f kj24).bind fun t401 => (some t401)))) else (some false))) else (none)) else (none)) = some true := by rw [if_pos rfl] at H; exact H
          clear H
          have H := H1
          clear H1
          by_cases c42 : 0 ≤ a2
          ·rw [if_pos c42] at H
           have c42b0 : decide (0 ≤ a2) = true := decide_eq_true c42
           clear c42
           by_cases c43 : a2 < (t376.length : Int)
           ·rw [if_pos c43] at H
            have c43b0 : decide (a2 < (t376.length : Int)) = true := decide_eq_true c43
            clear c43
            replace H := Option.bind_eq_some_iff.mp H
            obtain ⟨t397, A440, H⟩ := H
            replace H : (if t397 = true then (if t392 = true then (if 0 ≤ (wrap64 (t395 + 1)) then (if (wrap64 (t395 + 1)) < (t376.length : Int) then ((gradineplain_Ints.f kj24 t391 (rd_L1 t376 (wrap64 (t395 + 1)))).bind fun t399 => (if t399 = true then ((gradinelaw20_same.f kj24).bind fun t400 => (some t400)) else (some false))) else (none)) else (none)) else (if (t391.length : Int) > 0 then (some false) else ((gradinelaw20_same.f kj24).bind fun t401 => (some t401)))) else (some false)) = some true := H
            have A44 := Aside0.mk A440
            clear A440
            by_cases c45 : t397 = true
            ·subst c45
             have H1 : (if t392 = true then (if 0 ≤ (wrap64 (t395 + 1)) then (if (wrap64 (t395 + 1)) < (t376.length : Int) then ((gradineplain_Ints.f kj24 t391 (rd_L1 t376 (wrap64 (t395 + 1)))).bind fun t399 => (if t399 = true then ((gradinelaw20_same.f kj24).bind fun t400 => (some t400)) else (some false))) else (none)) else (none)) else (if (t391.length : Int) > 0 then (some false) else ((gradinelaw20_same.f kj24).bind fun t401 => (some t401)))) = some true := by rw [if_pos rfl] at H; exact H
             clear H
             have H := H1
             clear H1
             by_cases c46 : t392 = true
             ·subst c46
              have H1 : (if 0 ≤ (wrap64 (t395 + 1)) then (if (wrap64 (t395 + 1)) < (t376.length : Int) then ((gradineplain_Ints.f kj24 t391 (rd_L1 t376 (wrap64 (t395 + 1)))).bind fun t399 => (if t399 = true then ((gradinelaw20_same.f kj24).bind fun t400 => (some t400)) else (some false))) else (none)) else (none)) = some true := by rw [if_pos rfl] at H; exact H
              clear H
              have H := H1
              clear H1
              obtain ⟨ji47, hji47⟩ : ∃ j_ : Int, (wrap64 (t395 + 1)) = j_ := ⟨_, rfl⟩
              replace H : (if 0 ≤ (ji47) then (if (ji47) < (t376.length : Int) then ((gradineplain_Ints.f kj24 t391 (rd_L1 t376 (ji47))).bind fun t399 => (if t399 = true then ((gradinelaw20_same.f kj24).bind fun t400 => (some t400)) else (some false))) else (none)) else (none)) = some true := by first | (rw [hji47] at H; exact H) | (simp only [hji47] at H ⊢; exact H)
              (try rw [hji47] at A44)
              have hji47w : (IntKind.i64.wrap (t395 + 1)) = ji47 := (i64_w _).trans hji47
              by_cases c48 : 0 ≤ (ji47)
              ·rw [if_pos c48] at H
               have c48b0 : decide (0 ≤ (ji47)) = true := decide_eq_true c48
               clear c48
               by_cases c49 : (ji47) < (t376.length : Int)
               ·rw [if_pos c49] at H
                have c49b0 : decide ((ji47) < (t376.length : Int)) = true := decide_eq_true c49
                clear c49
                replace H := Option.bind_eq_some_iff.mp H
                obtain ⟨t399, A500, H⟩ := H
                replace H : (if t399 = true then ((gradinelaw20_same.f kj24).bind fun t400 => (some t400)) else (some false)) = some true := H
                have A50 := Aside0.mk A500
                clear A500
                by_cases c51 : t399 = true
                ·subst c51
                 have H1 : ((gradinelaw20_same.f kj24).bind fun t400 => (some t400)) = some true := by rw [if_pos rfl] at H; exact H
                 clear H
                 have H := H1
                 clear H1
                 replace H := Option.bind_eq_some_iff.mp H
                 obtain ⟨t400, A520, H⟩ := H
                 replace H : (some t400) = some true := H
                 have A52 := Aside0.mk A520
                 clear A520
                 have hv_ := Aside0.mk (Option.some.inj H)
                 clear H
                 have p396 : 0 ≤ (a2 : Int) := of_decide_eq_true pD
                 have q396 : a2 < (t376.length : Int) := of_decide_eq_true pD
                 obtain ⟨ad396, A396_0, c396_0, e396, hx396_0, hl396_0, hi396_0⟩ := at_L1 (Kd.N_reads' HO_7.out).2.2 a2 p396 q396
                 cases e396
                 obtain ⟨ce396, hce396, hMe396, hcc396⟩ := Kd.N_get HO_7.out [] a2 p396 (by first | exact q396 | exact of_decide_eq_true pD | (have e_ := (Kd.N_reads' HO_7.out).1; omega))
                 obtain ⟨ua396_0, uc396_0, rfl, ul396_0, ge396_0⟩ := Kd.FK_slice_open hMe396
                 have hv396_0 := hcc396 0 _ rfl
                 rw [Nat.add_zero, show ((Kd.slice 3 (Kd.int .i64))).sz = 1 from rfl, Nat.mul_one] at hv396_0
                 replace hv396_0 := Option.some.inj (hv396_0.symm.trans hx396_0)
                 injection hv396_0 with hva_ hvn_ hvc_
                 rw [hva_] at ge396_0
                 rw [hvc_] at ul396_0
                 have HL396_0 := Aside0.mk (show Kd.V (Kd.int .i64) 3 _ w.heap.size _ _ (rd_L1 t376 a2) from Kd.V_mk ul396_0 ge396_0)
                 clear hva_ hvn_ hvc_ ge396_0 ul396_0
                 clear hcc396 hce396
                 have HR396_0 := Aside0.mk hi396_0
                 have HC396_0 := Aside0.mk hl396_0
                 clear hi396_0 hl396_0
                 replace p396 := eq_true p396
                 replace q396 := eq_true q396
                 obtain ⟨Ao53, co53, eo53⟩ := Kd.R_slice HO_10.out
                 subst eo53
                 go_wp2_with (first | (go_at_call 19; (with_reducible refine (gradineplain_Ints.calls kj24 _ _ t385 _ _ (rd_L1 t376 a2) true _ ?side1 ?side2 ?side3 ?side4 A44.out).mono ?_); (case side1 => exact pC (Kd.R_reads' HO_10.out).2.2); (case side2 => exact (Kd.R_reads' HO_10.out).2.1); (case side3 => repeat (first | exact (by repeat (first | (with_reducible exact HR396_0.out) | (with_reducible refine Kd.C_alloc ?_ _) | (with_reducible refine Kd.C_drewN ?_ _) | (with_reducible refine Kd.C_drew ?_) | exact HR396_0.out)) | (with_reducible refine Kd.C_alloc ?_ _) | (with_reducible refine Kd.C_drewN ?_ _) | (with_reducible refine Kd.C_drew ?_))); (case side4 => exact HC396_0.out); rintro e w' ⟨rfl, ⟨nd, rfl⟩⟩; (try first | exact ⟨rfl, _, World.drewN_drewN _ _ _⟩ | exact ⟨rfl, _, Eq.trans (World.drewN_drewN _ _ _) (congrArg (World.drewN _) (Nat.add_assoc _ _ _))⟩); have p398 : 0 ≤ ((ji47) : Int) := of_decide_eq_true pD; have q398 : (ji47) < (t376.length : Int) := of_decide_eq_true pD; obtain ⟨ad398, A398_0, c398_0, e398, hx398_0, hl398_0, hi398_0⟩ := at_L1 (Kd.N_reads' HO_7.out).2.2 (ji47) p398 q398; obtain rfl : ad396 = ad398 := (by injection e398); obtain ⟨ce398, hce398, hMe398, hcc398⟩ := Kd.N_get HO_7.out [] (ji47) p398 (by first | exact q398 | exact of_decide_eq_true pD | (have e_ := (Kd.N_reads' HO_7.out).1; omega)); obtain ⟨ua398_0, uc398_0, rfl, ul398_0, ge398_0⟩ := Kd.FK_slice_open hMe398; have hv398_0 := hcc398 0 _ rfl; rw [Nat.add_zero, show ((Kd.slice 3 (Kd.int .i64))).sz = 1 from rfl, Nat.mul_one] at hv398_0; replace hv398_0 := Option.some.inj (hv398_0.symm.trans hx398_0); injection hv398_0 with hva_ hvn_ hvc_; rw [hva_] at ge398_0; rw [hvc_] at ul398_0; have HL398_0 := Aside0.mk (show Kd.V (Kd.int .i64) 3 _ w.heap.size _ _ (rd_L1 t376 (ji47)) from Kd.V_mk ul398_0 ge398_0); clear hva_ hvn_ hvc_ ge398_0 ul398_0; clear hcc398 hce398; have HR398_0 := Aside0.mk hi398_0; have HC398_0 := Aside0.mk hl398_0; clear hi398_0 hl398_0; replace p398 := eq_true p398; replace q398 := eq_true q398; obtain ⟨Ao54, co54, eo54⟩ := Kd.R_slice HO_14.out; subst eo54) | (go_at_call 19; (with_reducible refine (gradineplain_Ints.calls kj24 _ _ t391 _ _ (rd_L1 t376 (ji47)) true _ ?side1 ?side2 ?side3 ?side4 A50.out).mono ?_); (case side1 => exact pC (Kd.R_reads' HO_14.out).2.2); (case side2 => exact (Kd.R_reads' HO_14.out).2.1); (case side3 => repeat (first | exact (by repeat (first | (with_reducible exact HR398_0.out) | (with_reducible refine Kd.C_alloc ?_ _) | (with_reducible refine Kd.C_drewN ?_ _) | (with_reducible refine Kd.C_drew ?_) | exact HR398_0.out)) | (with_reducible refine Kd.C_alloc ?_ _) | (with_reducible refine Kd.C_drewN ?_ _) | (with_reducible refine Kd.C_drew ?_))); (case side4 => exact HC398_0.out); rintro e w' ⟨rfl, ⟨nd, rfl⟩⟩; (try first | exact ⟨rfl, _, World.drewN_drewN _ _ _⟩ | exact ⟨rfl, _, Eq.trans (World.drewN_drewN _ _ _) (congrArg (World.drewN _) (Nat.add_assoc _ _ _))⟩)) | (go_at_call 27; (with_reducible refine (gradinelaw20_same.calls kj24  t400 _ A52.out).mono ?_); rintro e w55 ⟨rfl, hb⟩; have n0_ := Aside0.mk (Kd.N_below (by (with_reducible repeat (first | apply Kd.N_alloc | apply Kd.N_drewN | apply Kd.N_drew)); exact HO_7.out) hb); have n1_ := Aside0.mk (Kd.R_below (pR HO_10.out) hb); have n2_ := Aside0.mk (Kd.R_below (pR HO_14.out) hb); have n3_ := Aside0.mk (Kd.V_below (pV HL396_0.out) hb); have n4_ := Aside0.mk (Kd.V_below (pV HL398_0.out) hb); have n5_ := Aside0.mk (Kd.C_below (by repeat (first | (with_reducible exact HR396_0.out) | (with_reducible refine Kd.C_alloc ?_ _) | (with_reducible refine Kd.C_drewN ?_ _) | (with_reducible refine Kd.C_drew ?_) | exact HR396_0.out)) hb); have n6_ := Aside0.mk (Kd.C_below (by repeat (first | (with_reducible exact HR398_0.out) | (with_reducible refine Kd.C_alloc ?_ _) | (with_reducible refine Kd.C_drewN ?_ _) | (with_reducible refine Kd.C_drew ?_) | exact HR398_0.out)) hb); have n7_ := Aside0.mk (below_step (pB HB.out) hb); clear HO_7; clear HO_10; clear HO_14; clear HL396_0; clear HL398_0; clear HR396_0; clear HR398_0; clear HB; have HO_7 := n0_; have HO_10 := n1_; have HO_14 := n2_; have HL396_0 := n3_; have HL398_0 := n4_; have HR396_0 := n5_; have HR398_0 := n6_; have HB := n7_; clear n0_ n1_ n2_ n3_ n4_ n5_ n6_ n7_; (try clear hb); (try clear hb2); (try clear hk); (try clear hi)))
                 repeat (go_quiet (first | (go_at_call 19; (with_reducible refine (gradineplain_Ints.calls kj24 _ _ t385 _ _ (rd_L1 t376 a2) true _ ?side1 ?side2 ?side3 ?side4 A44.out).mono ?_); (case side1 => exact pC (Kd.R_reads' HO_10.out).2.2); (case side2 => exact (Kd.R_reads' HO_10.out).2.1); (case side3 => repeat (first | exact (by repeat (first | (with_reducible exact HR396_0.out) | (with_reducible refine Kd.C_alloc ?_ _) | (with_reducible refine Kd.C_drewN ?_ _) | (with_reducible refine Kd.C_drew ?_) | exact HR396_0.out)) | (with_reducible refine Kd.C_alloc ?_ _) | (with_reducible refine Kd.C_drewN ?_ _) | (with_reducible refine Kd.C_drew ?_))); (case side4 => exact HC396_0.out); rintro e w' ⟨rfl, ⟨nd, rfl⟩⟩; (try first | exact ⟨rfl, _, World.drewN_drewN _ _ _⟩ | exact ⟨rfl, _, Eq.trans (World.drewN_drewN _ _ _) (congrArg (World.drewN _) (Nat.add_assoc _ _ _))⟩); have p398 : 0 ≤ ((ji47) : Int) := of_decide_eq_true pD; have q398 : (ji47) < (t376.length : Int) := of_decide_eq_true pD; obtain ⟨ad398, A398_0, c398_0, e398, hx398_0, hl398_0, hi398_0⟩ := at_L1 (Kd.N_reads' HO_7.out).2.2 (ji47) p398 q398; obtain rfl : ad396 = ad398 := (by injection e398); obtain ⟨ce398, hce398, hMe398, hcc398⟩ := Kd.N_get HO_7.out [] (ji47) p398 (by first | exact q398 | exact of_decide_eq_true pD | (have e_ := (Kd.N_reads' HO_7.out).1; omega)); obtain ⟨ua398_0, uc398_0, rfl, ul398_0, ge398_0⟩ := Kd.FK_slice_open hMe398; have hv398_0 := hcc398 0 _ rfl; rw [Nat.add_zero, show ((Kd.slice 3 (Kd.int .i64))).sz = 1 from rfl, Nat.mul_one] at hv398_0; replace hv398_0 := Option.some.inj (hv398_0.symm.trans hx398_0); injection hv398_0 with hva_ hvn_ hvc_; rw [hva_] at ge398_0; rw [hvc_] at ul398_0; have HL398_0 := Aside0.mk (show Kd.V (Kd.int .i64) 3 _ w.heap.size _ _ (rd_L1 t376 (ji47)) from Kd.V_mk ul398_0 ge398_0); clear hva_ hvn_ hvc_ ge398_0 ul398_0; clear hcc398 hce398; have HR398_0 := Aside0.mk hi398_0; have HC398_0 := Aside0.mk hl398_0; clear hi398_0 hl398_0; replace p398 := eq_true p398; replace q398 := eq_true q398; obtain ⟨Ao54, co54, eo54⟩ := Kd.R_slice HO_14.out; subst eo54) | (go_at_call 19; (with_reducible refine (gradineplain_Ints.calls kj24 _ _ t391 _ _ (rd_L1 t376 (ji47)) true _ ?side1 ?side2 ?side3 ?side4 A50.out).mono ?_); (case side1 => exact pC (Kd.R_reads' HO_14.out).2.2); (case side2 => exact (Kd.R_reads' HO_14.out).2.1); (case side3 => repeat (first | exact (by repeat (first | (with_reducible exact HR398_0.out) | (with_reducible refine Kd.C_alloc ?_ _) | (with_reducible refine Kd.C_drewN ?_ _) | (with_reducible refine Kd.C_drew ?_) | exact HR398_0.out)) | (with_reducible refine Kd.C_alloc ?_ _) | (with_reducible refine Kd.C_drewN ?_ _) | (with_reducible refine Kd.C_drew ?_))); (case side4 => exact HC398_0.out); rintro e w' ⟨rfl, ⟨nd, rfl⟩⟩; (try first | exact ⟨rfl, _, World.drewN_drewN _ _ _⟩ | exact ⟨rfl, _, Eq.trans (World.drewN_drewN _ _ _) (congrArg (World.drewN _) (Nat.add_assoc _ _ _))⟩)) | (go_at_call 27; (with_reducible refine (gradinelaw20_same.calls kj24  t400 _ A52.out).mono ?_); rintro e w55 ⟨rfl, hb⟩; have n0_ := Aside0.mk (Kd.N_below (by (with_reducible repeat (first | apply Kd.N_alloc | apply Kd.N_drewN | apply Kd.N_drew)); exact HO_7.out) hb); have n1_ := Aside0.mk (Kd.R_below (pR HO_10.out) hb); have n2_ := Aside0.mk (Kd.R_below (pR HO_14.out) hb); have n3_ := Aside0.mk (Kd.V_below (pV HL396_0.out) hb); have n4_ := Aside0.mk (Kd.V_below (pV HL398_0.out) hb); have n5_ := Aside0.mk (Kd.C_below (by repeat (first | (with_reducible exact HR396_0.out) | (with_reducible refine Kd.C_alloc ?_ _) | (with_reducible refine Kd.C_drewN ?_ _) | (with_reducible refine Kd.C_drew ?_) | exact HR396_0.out)) hb); have n6_ := Aside0.mk (Kd.C_below (by repeat (first | (with_reducible exact HR398_0.out) | (with_reducible refine Kd.C_alloc ?_ _) | (with_reducible refine Kd.C_drewN ?_ _) | (with_reducible refine Kd.C_drew ?_) | exact HR398_0.out)) hb); have n7_ := Aside0.mk (below_step (pB HB.out) hb); clear HO_7; clear HO_10; clear HO_14; clear HL396_0; clear HL398_0; clear HR396_0; clear HR398_0; clear HB; have HO_7 := n0_; have HO_10 := n1_; have HO_14 := n2_; have HL396_0 := n3_; have HL398_0 := n4_; have HR396_0 := n5_; have HR398_0 := n6_; have HB := n7_; clear n0_ n1_ n2_ n3_ n4_ n5_ n6_ n7_; (try clear hb); (try clear hb2); (try clear hk); (try clear hi))); try go_wp2_with (first | (go_at_call 19; (with_reducible refine (gradineplain_Ints.calls kj24 _ _ t385 _ _ (rd_L1 t376 a2) true _ ?side1 ?side2 ?side3 ?side4 A44.out).mono ?_); (case side1 => exact pC (Kd.R_reads' HO_10.out).2.2); (case side2 => exact (Kd.R_reads' HO_10.out).2.1); (case side3 => repeat (first | exact (by repeat (first | (with_reducible exact HR396_0.out) | (with_reducible refine Kd.C_alloc ?_ _) | (with_reducible refine Kd.C_drewN ?_ _) | (with_reducible refine Kd.C_drew ?_) | exact HR396_0.out)) | (with_reducible refine Kd.C_alloc ?_ _) | (with_reducible refine Kd.C_drewN ?_ _) | (with_reducible refine Kd.C_drew ?_))); (case side4 => exact HC396_0.out); rintro e w' ⟨rfl, ⟨nd, rfl⟩⟩; (try first | exact ⟨rfl, _, World.drewN_drewN _ _ _⟩ | exact ⟨rfl, _, Eq.trans (World.drewN_drewN _ _ _) (congrArg (World.drewN _) (Nat.add_assoc _ _ _))⟩); have p398 : 0 ≤ ((ji47) : Int) := of_decide_eq_true pD; have q398 : (ji47) < (t376.length : Int) := of_decide_eq_true pD; obtain ⟨ad398, A398_0, c398_0, e398, hx398_0, hl398_0, hi398_0⟩ := at_L1 (Kd.N_reads' HO_7.out).2.2 (ji47) p398 q398; obtain rfl : ad396 = ad398 := (by injection e398); obtain ⟨ce398, hce398, hMe398, hcc398⟩ := Kd.N_get HO_7.out [] (ji47) p398 (by first | exact q398 | exact of_decide_eq_true pD | (have e_ := (Kd.N_reads' HO_7.out).1; omega)); obtain ⟨ua398_0, uc398_0, rfl, ul398_0, ge398_0⟩ := Kd.FK_slice_open hMe398; have hv398_0 := hcc398 0 _ rfl; rw [Nat.add_zero, show ((Kd.slice 3 (Kd.int .i64))).sz = 1 from rfl, Nat.mul_one] at hv398_0; replace hv398_0 := Option.some.inj (hv398_0.symm.trans hx398_0); injection hv398_0 with hva_ hvn_ hvc_; rw [hva_] at ge398_0; rw [hvc_] at ul398_0; have HL398_0 := Aside0.mk (show Kd.V (Kd.int .i64) 3 _ w.heap.size _ _ (rd_L1 t376 (ji47)) from Kd.V_mk ul398_0 ge398_0); clear hva_ hvn_ hvc_ ge398_0 ul398_0; clear hcc398 hce398; have HR398_0 := Aside0.mk hi398_0; have HC398_0 := Aside0.mk hl398_0; clear hi398_0 hl398_0; replace p398 := eq_true p398; replace q398 := eq_true q398; obtain ⟨Ao54, co54, eo54⟩ := Kd.R_slice HO_14.out; subst eo54) | (go_at_call 19; (with_reducible refine (gradineplain_Ints.calls kj24 _ _ t391 _ _ (rd_L1 t376 (ji47)) true _ ?side1 ?side2 ?side3 ?side4 A50.out).mono ?_); (case side1 => exact pC (Kd.R_reads' HO_14.out).2.2); (case side2 => exact (Kd.R_reads' HO_14.out).2.1); (case side3 => repeat (first | exact (by repeat (first | (with_reducible exact HR398_0.out) | (with_reducible refine Kd.C_alloc ?_ _) | (with_reducible refine Kd.C_drewN ?_ _) | (with_reducible refine Kd.C_drew ?_) | exact HR398_0.out)) | (with_reducible refine Kd.C_alloc ?_ _) | (with_reducible refine Kd.C_drewN ?_ _) | (with_reducible refine Kd.C_drew ?_))); (case side4 => exact HC398_0.out); rintro e w' ⟨rfl, ⟨nd, rfl⟩⟩; (try first | exact ⟨rfl, _, World.drewN_drewN _ _ _⟩ | exact ⟨rfl, _, Eq.trans (World.drewN_drewN _ _ _) (congrArg (World.drewN _) (Nat.add_assoc _ _ _))⟩)) | (go_at_call 27; (with_reducible refine (gradinelaw20_same.calls kj24  t400 _ A52.out).mono ?_); rintro e w55 ⟨rfl, hb⟩; have n0_ := Aside0.mk (Kd.N_below (by (with_reducible repeat (first | apply Kd.N_alloc | apply Kd.N_drewN | apply Kd.N_drew)); exact HO_7.out) hb); have n1_ := Aside0.mk (Kd.R_below (pR HO_10.out) hb); have n2_ := Aside0.mk (Kd.R_below (pR HO_14.out) hb); have n3_ := Aside0.mk (Kd.V_below (pV HL396_0.out) hb); have n4_ := Aside0.mk (Kd.V_below (pV HL398_0.out) hb); have n5_ := Aside0.mk (Kd.C_below (by repeat (first | (with_reducible exact HR396_0.out) | (with_reducible refine Kd.C_alloc ?_ _) | (with_reducible refine Kd.C_drewN ?_ _) | (with_reducible refine Kd.C_drew ?_) | exact HR396_0.out)) hb); have n6_ := Aside0.mk (Kd.C_below (by repeat (first | (with_reducible exact HR398_0.out) | (with_reducible refine Kd.C_alloc ?_ _) | (with_reducible refine Kd.C_drewN ?_ _) | (with_reducible refine Kd.C_drew ?_) | exact HR398_0.out)) hb); have n7_ := Aside0.mk (below_step (pB HB.out) hb); clear HO_7; clear HO_10; clear HO_14; clear HL396_0; clear HL398_0; clear HR396_0; clear HR398_0; clear HB; have HO_7 := n0_; have HO_10 := n1_; have HO_14 := n2_; have HL396_0 := n3_; have HL398_0 := n4_; have HR396_0 := n5_; have HR398_0 := n6_; have HB := n7_; clear n0_ n1_ n2_ n3_ n4_ n5_ n6_ n7_; (try clear hb); (try clear hb2); (try clear hk); (try clear hi))))
                 go_ret
                 replace hv_ := hv_.out
                 exact ⟨by first | rfl | (simp [errW_none, errW_some] <;> rfl) | (simp only [← hji47]; first | rfl | (simp [errW_none, errW_some] <;> rfl)) | (simp [*, errW_none, errW_some] <;> rfl), pB HB.out⟩
                ·replace c51 := Bool.eq_false_iff.mpr c51
                 subst c51
                 have H1 : (some false) = some true := by rw [if_neg (show ¬ (false = true) by decide)] at H; exact H
                 clear H
                 have H := H1
                 clear H1
                 exact absurd H (by simp)
               ·rw [if_neg c49] at H
                exact absurd H (by simp)
              ·rw [if_neg c48] at H
               exact absurd H (by simp)
             ·replace c46 := Bool.eq_false_iff.mpr c46
              subst c46
              have H1 : (if (t391.length : Int) > 0 then (some false) else ((gradinelaw20_same.f kj24).bind fun t401 => (some t401))) = some true := by rw [if_neg (show ¬ (false = true) by decide)] at H; exact H
              clear H
              have H := H1
              clear H1
              by_cases c56 : (t391.length : Int) > 0
              ·rw [if_pos c56] at H
               have c56b0 : decide (0 < (t391.length : Int)) = true := decide_eq_true c56
               have c56b1 : decide (0 < t391.length) = true := decide_eq_true (by omega)
               clear c56
               exact absurd H (by simp)
              ·rw [if_neg c56] at H
               have c56b0 : decide (0 < (t391.length : Int)) = false := decide_eq_false c56
               have c56b1 : decide (0 < t391.length) = false := decide_eq_false (by omega)
               clear c56
               replace H := Option.bind_eq_some_iff.mp H
               obtain ⟨t401, A570, H⟩ := H
               replace H : (some t401) = some true := H
               have A57 := Aside0.mk A570
               clear A570
               have hv_ := Aside0.mk (Option.some.inj H)
               clear H
               have p396 : 0 ≤ (a2 : Int) := of_decide_eq_true pD
               have q396 : a2 < (t376.length : Int) := of_decide_eq_true pD
               obtain ⟨ad396, A396_0, c396_0, e396, hx396_0, hl396_0, hi396_0⟩ := at_L1 (Kd.N_reads' HO_7.out).2.2 a2 p396 q396
               cases e396
               obtain ⟨ce396, hce396, hMe396, hcc396⟩ := Kd.N_get HO_7.out [] a2 p396 (by first | exact q396 | exact of_decide_eq_true pD | (have e_ := (Kd.N_reads' HO_7.out).1; omega))
               obtain ⟨ua396_0, uc396_0, rfl, ul396_0, ge396_0⟩ := Kd.FK_slice_open hMe396
               have hv396_0 := hcc396 0 _ rfl
               rw [Nat.add_zero, show ((Kd.slice 3 (Kd.int .i64))).sz = 1 from rfl, Nat.mul_one] at hv396_0
               replace hv396_0 := Option.some.inj (hv396_0.symm.trans hx396_0)
               injection hv396_0 with hva_ hvn_ hvc_
               rw [hva_] at ge396_0
               rw [hvc_] at ul396_0
               have HL396_0 := Aside0.mk (show Kd.V (Kd.int .i64) 3 _ w.heap.size _ _ (rd_L1 t376 a2) from Kd.V_mk ul396_0 ge396_0)
               clear hva_ hvn_ hvc_ ge396_0 ul396_0
               clear hcc396 hce396
               have HR396_0 := Aside0.mk hi396_0
               have HC396_0 := Aside0.mk hl396_0
               clear hi396_0 hl396_0
               replace p396 := eq_true p396
               replace q396 := eq_true q396
               obtain ⟨Ao58, co58, eo58⟩ := Kd.R_slice HO_10.out
               subst eo58
               go_wp2_with (first | (go_at_call 19; (with_reducible refine (gradineplain_Ints.calls kj24 _ _ t385 _ _ (rd_L1 t376 a2) true _ ?side1 ?side2 ?side3 ?side4 A44.out).mono ?_); (case side1 => exact pC (Kd.R_reads' HO_10.out).2.2); (case side2 => exact (Kd.R_reads' HO_10.out).2.1); (case side3 => repeat (first | exact (by repeat (first | (with_reducible exact HR396_0.out) | (with_reducible refine Kd.C_alloc ?_ _) | (with_reducible refine Kd.C_drewN ?_ _) | (with_reducible refine Kd.C_drew ?_) | exact HR396_0.out)) | (with_reducible refine Kd.C_alloc ?_ _) | (with_reducible refine Kd.C_drewN ?_ _) | (with_reducible refine Kd.C_drew ?_))); (case side4 => exact HC396_0.out); rintro e w' ⟨rfl, ⟨nd, rfl⟩⟩; (try first | exact ⟨rfl, _, World.drewN_drewN _ _ _⟩ | exact ⟨rfl, _, Eq.trans (World.drewN_drewN _ _ _) (congrArg (World.drewN _) (Nat.add_assoc _ _ _))⟩); obtain ⟨Ao59, co59, eo59⟩ := Kd.R_slice HO_14.out; subst eo59) | (go_at_call 27; (with_reducible refine (gradinelaw20_same.calls kj24  t401 _ A57.out).mono ?_); rintro e w60 ⟨rfl, hb⟩; have n0_ := Aside0.mk (Kd.N_below (by (with_reducible repeat (first | apply Kd.N_alloc | apply Kd.N_drewN | apply Kd.N_drew)); exact HO_7.out) hb); have n1_ := Aside0.mk (Kd.R_below (pR HO_10.out) hb); have n2_ := Aside0.mk (Kd.R_below (pR HO_14.out) hb); have n3_ := Aside0.mk (Kd.V_below (pV HL396_0.out) hb); have n4_ := Aside0.mk (Kd.C_below (by repeat (first | (with_reducible exact HR396_0.out) | (with_reducible refine Kd.C_alloc ?_ _) | (with_reducible refine Kd.C_drewN ?_ _) | (with_reducible refine Kd.C_drew ?_) | exact HR396_0.out)) hb); have n5_ := Aside0.mk (below_step (pB HB.out) hb); clear HO_7; clear HO_10; clear HO_14; clear HL396_0; clear HR396_0; clear HB; have HO_7 := n0_; have HO_10 := n1_; have HO_14 := n2_; have HL396_0 := n3_; have HR396_0 := n4_; have HB := n5_; clear n0_ n1_ n2_ n3_ n4_ n5_; (try clear hb); (try clear hb2); (try clear hk); (try clear hi)))
               repeat (go_quiet (first | (go_at_call 19; (with_reducible refine (gradineplain_Ints.calls kj24 _ _ t385 _ _ (rd_L1 t376 a2) true _ ?side1 ?side2 ?side3 ?side4 A44.out).mono ?_); (case side1 => exact pC (Kd.R_reads' HO_10.out).2.2); (case side2 => exact (Kd.R_reads' HO_10.out).2.1); (case side3 => repeat (first | exact (by repeat (first | (with_reducible exact HR396_0.out) | (with_reducible refine Kd.C_alloc ?_ _) | (with_reducible refine Kd.C_drewN ?_ _) | (with_reducible refine Kd.C_drew ?_) | exact HR396_0.out)) | (with_reducible refine Kd.C_alloc ?_ _) | (with_reducible refine Kd.C_drewN ?_ _) | (with_reducible refine Kd.C_drew ?_))); (case side4 => exact HC396_0.out); rintro e w' ⟨rfl, ⟨nd, rfl⟩⟩; (try first | exact ⟨rfl, _, World.drewN_drewN _ _ _⟩ | exact ⟨rfl, _, Eq.trans (World.drewN_drewN _ _ _) (congrArg (World.drewN _) (Nat.add_assoc _ _ _))⟩); obtain ⟨Ao59, co59, eo59⟩ := Kd.R_slice HO_14.out; subst eo59) | (go_at_call 27; (with_reducible refine (gradinelaw20_same.calls kj24  t401 _ A57.out).mono ?_); rintro e w60 ⟨rfl, hb⟩; have n0_ := Aside0.mk (Kd.N_below (by (with_reducible repeat (first | apply Kd.N_alloc | apply Kd.N_drewN | apply Kd.N_drew)); exact HO_7.out) hb); have n1_ := Aside0.mk (Kd.R_below (pR HO_10.out) hb); have n2_ := Aside0.mk (Kd.R_below (pR HO_14.out) hb); have n3_ := Aside0.mk (Kd.V_below (pV HL396_0.out) hb); have n4_ := Aside0.mk (Kd.C_below (by repeat (first | (with_reducible exact HR396_0.out) | (with_reducible refine Kd.C_alloc ?_ _) | (with_reducible refine Kd.C_drewN ?_ _) | (with_reducible refine Kd.C_drew ?_) | exact HR396_0.out)) hb); have n5_ := Aside0.mk (below_step (pB HB.out) hb); clear HO_7; clear HO_10; clear HO_14; clear HL396_0; clear HR396_0; clear HB; have HO_7 := n0_; have HO_10 := n1_; have HO_14 := n2_; have HL396_0 := n3_; have HR396_0 := n4_; have HB := n5_; clear n0_ n1_ n2_ n3_ n4_ n5_; (try clear hb); (try clear hb2); (try clear hk); (try clear hi))); try go_wp2_with (first | (go_at_call 19; (with_reducible refine (gradineplain_Ints.calls kj24 _ _ t385 _ _ (rd_L1 t376 a2) true _ ?side1 ?side2 ?side3 ?side4 A44.out).mono ?_); (case side1 => exact pC (Kd.R_reads' HO_10.out).2.2); (case side2 => exact (Kd.R_reads' HO_10.out).2.1); (case side3 => repeat (first | exact (by repeat (first | (with_reducible exact HR396_0.out) | (with_reducible refine Kd.C_alloc ?_ _) | (with_reducible refine Kd.C_drewN ?_ _) | (with_reducible refine Kd.C_drew ?_) | exact HR396_0.out)) | (with_reducible refine Kd.C_alloc ?_ _) | (with_reducible refine Kd.C_drewN ?_ _) | (with_reducible refine Kd.C_drew ?_))); (case side4 => exact HC396_0.out); rintro e w' ⟨rfl, ⟨nd, rfl⟩⟩; (try first | exact ⟨rfl, _, World.drewN_drewN _ _ _⟩ | exact ⟨rfl, _, Eq.trans (World.drewN_drewN _ _ _) (congrArg (World.drewN _) (Nat.add_assoc _ _ _))⟩); obtain ⟨Ao59, co59, eo59⟩ := Kd.R_slice HO_14.out; subst eo59) | (go_at_call 27; (with_reducible refine (gradinelaw20_same.calls kj24  t401 _ A57.out).mono ?_); rintro e w60 ⟨rfl, hb⟩; have n0_ := Aside0.mk (Kd.N_below (by (with_reducible repeat (first | apply Kd.N_alloc | apply Kd.N_drewN | apply Kd.N_drew)); exact HO_7.out) hb); have n1_ := Aside0.mk (Kd.R_below (pR HO_10.out) hb); have n2_ := Aside0.mk (Kd.R_below (pR HO_14.out) hb); have n3_ := Aside0.mk (Kd.V_below (pV HL396_0.out) hb); have n4_ := Aside0.mk (Kd.C_below (by repeat (first | (with_reducible exact HR396_0.out) | (with_reducible refine Kd.C_alloc ?_ _) | (with_reducible refine Kd.C_drewN ?_ _) | (with_reducible refine Kd.C_drew ?_) | exact HR396_0.out)) hb); have n5_ := Aside0.mk (below_step (pB HB.out) hb); clear HO_7; clear HO_10; clear HO_14; clear HL396_0; clear HR396_0; clear HB; have HO_7 := n0_; have HO_10 := n1_; have HO_14 := n2_; have HL396_0 := n3_; have HR396_0 := n4_; have HB := n5_; clear n0_ n1_ n2_ n3_ n4_ n5_; (try clear hb); (try clear hb2); (try clear hk); (try clear hi))))
               go_ret
               replace hv_ := hv_.out
               exact ⟨pE, pB HB.out⟩
            ·replace c45 := Bool.eq_false_iff.mpr c45
             subst c45
             have H1 : (some false) = some true := by rw [if_neg (show ¬ (false = true) by decide)] at H; exact H
             clear H
             have H := H1
             clear H1
             exact absurd H (by simp)
           ·rw [if_neg c43] at H
            exact absurd H (by simp)
          ·rw [if_neg c42] at H
           exact absurd H (by simp)
         ·replace c41 := Bool.eq_false_iff.mpr c41
          subst c41
          have H1 : (if (t385.length : Int) > 0 then (some false) else (if t392 = true then (if 0 ≤ (wrap64 (t395 + 1)) then (if (wrap64 (t395 + 1)) < (t376.length : Int) then ((gradineplain_Ints.f kj24 t391 (rd_L1 t376 (wrap64 (t395 + 1)))).bind fun t403 => (if t403 = true then ((gradinelaw20_same.f kj24).bind fun t404 => (some t404)) else (some false))) else (none)) else (none)) else (if (t391.length : Int) > 0 then (some false) else ((gradinelaw20_same.f kj24).bind fun t405 => (some t405))))) = some true := by rw [if_neg (show ¬ (false = true) by decide)] at H; exact H
          clear H
          have H := H1
          clear H1
          by_cases c61 : (t385.length : Int) > 0
          ·rw [if_pos c61] at H
           have c61b0 : decide (0 < (t385.length : Int)) = true := decide_eq_true c61
           have c61b1 : decide (0 < t385.length) = true := decide_eq_true (by omega)
           clear c61
           exact absurd H (by simp)
          ·rw [if_neg c61] at H
           have c61b0 : decide (0 < (t385.length : Int)) = false := decide_eq_false c61
           have c61b1 : decide (0 < t385.length) = false := decide_eq_false (by omega)
           clear c61
           by_cases c62 : t392 = true
           ·subst c62
            have H1 : (if 0 ≤ (wrap64 (t395 + 1)) then (if (wrap64 (t395 + 1)) < (t376.length : Int) then ((gradineplain_Ints.f kj24 t391 (rd_L1 t376 (wrap64 (t395 + 1)))).bind fun t403 => (if t403 = true then ((gradinelaw20_same.f kj24).bind fun t404 => (some t404)) else (some false))) else (none)) else (none)) = some true := by rw [if_pos rfl] at H; exact H
            clear H
            have H := H1
            clear H1
            obtain ⟨ji63, hji63⟩ : ∃ j_ : Int, (wrap64 (t395 + 1)) = j_ := ⟨_, rfl⟩
            replace H : (if 0 ≤ (ji63) then (if (ji63) < (t376.length : Int) then ((gradineplain_Ints.f kj24 t391 (rd_L1 t376 (ji63))).bind fun t403 => (if t403 = true then ((gradinelaw20_same.f kj24).bind fun t404 => (some t404)) else (some false))) else (none)) else (none)) = some true := by first | (rw [hji63] at H; exact H) | (simp only [hji63] at H ⊢; exact H)
            have hji63w : (IntKind.i64.wrap (t395 + 1)) = ji63 := (i64_w _).trans hji63
            by_cases c64 : 0 ≤ (ji63)
            ·rw [if_pos c64] at H
             have c64b0 : decide (0 ≤ (ji63)) = true := decide_eq_true c64
             clear c64
             by_cases c65 : (ji63) < (t376.length : Int)
             ·rw [if_pos c65] at H
              have c65b0 : decide ((ji63) < (t376.length : Int)) = true := decide_eq_true c65
              clear c65
              replace H := Option.bind_eq_some_iff.mp H
              obtain ⟨t403, A660, H⟩ := H
              replace H : (if t403 = true then ((gradinelaw20_same.f kj24).bind fun t404 => (some t404)) else (some false)) = some true := H
              have A66 := Aside0.mk A660
              clear A660
              by_cases c67 : t403 = true
              ·subst c67
               have H1 : ((gradinelaw20_same.f kj24).bind fun t404 => (some t404)) = some true := by rw [if_pos rfl] at H; exact H
               clear H
               have H := H1
               clear H1
               replace H := Option.bind_eq_some_iff.mp H
               obtain ⟨t404, A680, H⟩ := H
               replace H : (some t404) = some true := H
               have A68 := Aside0.mk A680
               clear A680
               have hv_ := Aside0.mk (Option.some.inj H)
               clear H
               obtain ⟨Ao69, co69, eo69⟩ := Kd.R_slice HO_10.out
               subst eo69
               have p402 : 0 ≤ ((ji63) : Int) := of_decide_eq_true pD
               have q402 : (ji63) < (t376.length : Int) := of_decide_eq_true pD
               obtain ⟨ad402, A402_0, c402_0, e402, hx402_0, hl402_0, hi402_0⟩ := at_L1 (Kd.N_reads' HO_7.out).2.2 (ji63) p402 q402
               cases e402
               obtain ⟨ce402, hce402, hMe402, hcc402⟩ := Kd.N_get HO_7.out [] (ji63) p402 (by first | exact q402 | exact of_decide_eq_true pD | (have e_ := (Kd.N_reads' HO_7.out).1; omega))
               obtain ⟨ua402_0, uc402_0, rfl, ul402_0, ge402_0⟩ := Kd.FK_slice_open hMe402
               have hv402_0 := hcc402 0 _ rfl
               rw [Nat.add_zero, show ((Kd.slice 3 (Kd.int .i64))).sz = 1 from rfl, Nat.mul_one] at hv402_0
               replace hv402_0 := Option.some.inj (hv402_0.symm.trans hx402_0)
               injection hv402_0 with hva_ hvn_ hvc_
               rw [hva_] at ge402_0
               rw [hvc_] at ul402_0
               have HL402_0 := Aside0.mk (show Kd.V (Kd.int .i64) 3 _ w.heap.size _ _ (rd_L1 t376 (ji63)) from Kd.V_mk ul402_0 ge402_0)
               clear hva_ hvn_ hvc_ ge402_0 ul402_0
               clear hcc402 hce402
               have HR402_0 := Aside0.mk hi402_0
               have HC402_0 := Aside0.mk hl402_0
               clear hi402_0 hl402_0
               replace p402 := eq_true p402
               replace q402 := eq_true q402
               obtain ⟨Ao70, co70, eo70⟩ := Kd.R_slice HO_14.out
               subst eo70
               go_wp2_with (first | (go_at_call 19; (with_reducible refine (gradineplain_Ints.calls kj24 _ _ t391 _ _ (rd_L1 t376 (ji63)) true _ ?side1 ?side2 ?side3 ?side4 A66.out).mono ?_); (case side1 => exact pC (Kd.R_reads' HO_14.out).2.2); (case side2 => exact (Kd.R_reads' HO_14.out).2.1); (case side3 => repeat (first | exact (by repeat (first | (with_reducible exact HR402_0.out) | (with_reducible refine Kd.C_alloc ?_ _) | (with_reducible refine Kd.C_drewN ?_ _) | (with_reducible refine Kd.C_drew ?_) | exact HR402_0.out)) | (with_reducible refine Kd.C_alloc ?_ _) | (with_reducible refine Kd.C_drewN ?_ _) | (with_reducible refine Kd.C_drew ?_))); (case side4 => exact HC402_0.out); rintro e w' ⟨rfl, ⟨nd, rfl⟩⟩; (try first | exact ⟨rfl, _, World.drewN_drewN _ _ _⟩ | exact ⟨rfl, _, Eq.trans (World.drewN_drewN _ _ _) (congrArg (World.drewN _) (Nat.add_assoc _ _ _))⟩)) | (go_at_call 27; (with_reducible refine (gradinelaw20_same.calls kj24  t404 _ A68.out).mono ?_); rintro e w71 ⟨rfl, hb⟩; have n0_ := Aside0.mk (Kd.N_below (by (with_reducible repeat (first | apply Kd.N_alloc | apply Kd.N_drewN | apply Kd.N_drew)); exact HO_7.out) hb); have n1_ := Aside0.mk (Kd.R_below (pR HO_10.out) hb); have n2_ := Aside0.mk (Kd.R_below (pR HO_14.out) hb); have n3_ := Aside0.mk (Kd.V_below (pV HL402_0.out) hb); have n4_ := Aside0.mk (Kd.C_below (by repeat (first | (with_reducible exact HR402_0.out) | (with_reducible refine Kd.C_alloc ?_ _) | (with_reducible refine Kd.C_drewN ?_ _) | (with_reducible refine Kd.C_drew ?_) | exact HR402_0.out)) hb); have n5_ := Aside0.mk (below_step (pB HB.out) hb); clear HO_7; clear HO_10; clear HO_14; clear HL402_0; clear HR402_0; clear HB; have HO_7 := n0_; have HO_10 := n1_; have HO_14 := n2_; have HL402_0 := n3_; have HR402_0 := n4_; have HB := n5_; clear n0_ n1_ n2_ n3_ n4_ n5_; (try clear hb); (try clear hb2); (try clear hk); (try clear hi)))
               repeat (go_quiet (first | (go_at_call 19; (with_reducible refine (gradineplain_Ints.calls kj24 _ _ t391 _ _ (rd_L1 t376 (ji63)) true _ ?side1 ?side2 ?side3 ?side4 A66.out).mono ?_); (case side1 => exact pC (Kd.R_reads' HO_14.out).2.2); (case side2 => exact (Kd.R_reads' HO_14.out).2.1); (case side3 => repeat (first | exact (by repeat (first | (with_reducible exact HR402_0.out) | (with_reducible refine Kd.C_alloc ?_ _) | (with_reducible refine Kd.C_drewN ?_ _) | (with_reducible refine Kd.C_drew ?_) | exact HR402_0.out)) | (with_reducible refine Kd.C_alloc ?_ _) | (with_reducible refine Kd.C_drewN ?_ _) | (with_reducible refine Kd.C_drew ?_))); (case side4 => exact HC402_0.out); rintro e w' ⟨rfl, ⟨nd, rfl⟩⟩; (try first | exact ⟨rfl, _, World.drewN_drewN _ _ _⟩ | exact ⟨rfl, _, Eq.trans (World.drewN_drewN _ _ _) (congrArg (World.drewN _) (Nat.add_assoc _ _ _))⟩)) | (go_at_call 27; (with_reducible refine (gradinelaw20_same.calls kj24  t404 _ A68.out).mono ?_); rintro e w71 ⟨rfl, hb⟩; have n0_ := Aside0.mk (Kd.N_below (by (with_reducible repeat (first | apply Kd.N_alloc | apply Kd.N_drewN | apply Kd.N_drew)); exact HO_7.out) hb); have n1_ := Aside0.mk (Kd.R_below (pR HO_10.out) hb); have n2_ := Aside0.mk (Kd.R_below (pR HO_14.out) hb); have n3_ := Aside0.mk (Kd.V_below (pV HL402_0.out) hb); have n4_ := Aside0.mk (Kd.C_below (by repeat (first | (with_reducible exact HR402_0.out) | (with_reducible refine Kd.C_alloc ?_ _) | (with_reducible refine Kd.C_drewN ?_ _) | (with_reducible refine Kd.C_drew ?_) | exact HR402_0.out)) hb); have n5_ := Aside0.mk (below_step (pB HB.out) hb); clear HO_7; clear HO_10; clear HO_14; clear HL402_0; clear HR402_0; clear HB; have HO_7 := n0_; have HO_10 := n1_; have HO_14 := n2_; have HL402_0 := n3_; have HR402_0 := n4_; have HB := n5_; clear n0_ n1_ n2_ n3_ n4_ n5_; (try clear hb); (try clear hb2); (try clear hk); (try clear hi))); try go_wp2_with (first | (go_at_call 19; (with_reducible refine (gradineplain_Ints.calls kj24 _ _ t391 _ _ (rd_L1 t376 (ji63)) true _ ?side1 ?side2 ?side3 ?side4 A66.out).mono ?_); (case side1 => exact pC (Kd.R_reads' HO_14.out).2.2); (case side2 => exact (Kd.R_reads' HO_14.out).2.1); (case side3 => repeat (first | exact (by repeat (first | (with_reducible exact HR402_0.out) | (with_reducible refine Kd.C_alloc ?_ _) | (with_reducible refine Kd.C_drewN ?_ _) | (with_reducible refine Kd.C_drew ?_) | exact HR402_0.out)) | (with_reducible refine Kd.C_alloc ?_ _) | (with_reducible refine Kd.C_drewN ?_ _) | (with_reducible refine Kd.C_drew ?_))); (case side4 => exact HC402_0.out); rintro e w' ⟨rfl, ⟨nd, rfl⟩⟩; (try first | exact ⟨rfl, _, World.drewN_drewN _ _ _⟩ | exact ⟨rfl, _, Eq.trans (World.drewN_drewN _ _ _) (congrArg (World.drewN _) (Nat.add_assoc _ _ _))⟩)) | (go_at_call 27; (with_reducible refine (gradinelaw20_same.calls kj24  t404 _ A68.out).mono ?_); rintro e w71 ⟨rfl, hb⟩; have n0_ := Aside0.mk (Kd.N_below (by (with_reducible repeat (first | apply Kd.N_alloc | apply Kd.N_drewN | apply Kd.N_drew)); exact HO_7.out) hb); have n1_ := Aside0.mk (Kd.R_below (pR HO_10.out) hb); have n2_ := Aside0.mk (Kd.R_below (pR HO_14.out) hb); have n3_ := Aside0.mk (Kd.V_below (pV HL402_0.out) hb); have n4_ := Aside0.mk (Kd.C_below (by repeat (first | (with_reducible exact HR402_0.out) | (with_reducible refine Kd.C_alloc ?_ _) | (with_reducible refine Kd.C_drewN ?_ _) | (with_reducible refine Kd.C_drew ?_) | exact HR402_0.out)) hb); have n5_ := Aside0.mk (below_step (pB HB.out) hb); clear HO_7; clear HO_10; clear HO_14; clear HL402_0; clear HR402_0; clear HB; have HO_7 := n0_; have HO_10 := n1_; have HO_14 := n2_; have HL402_0 := n3_; have HR402_0 := n4_; have HB := n5_; clear n0_ n1_ n2_ n3_ n4_ n5_; (try clear hb); (try clear hb2); (try clear hk); (try clear hi))))
               go_ret
               replace hv_ := hv_.out
               exact ⟨by first | rfl | (simp [errW_none, errW_some] <;> rfl) | (simp only [← hji63]; first | rfl | (simp [errW_none, errW_some] <;> rfl)) | (simp [*, errW_none, errW_some] <;> rfl), pB HB.out⟩
              ·replace c67 := Bool.eq_false_iff.mpr c67
               subst c67
               have H1 : (some false) = some true := by rw [if_neg (show ¬ (false = true) by decide)] at H; exact H
               clear H
               have H := H1
               clear H1
               exact absurd H (by simp)
             ·rw [if_neg c65] at H
              exact absurd H (by simp)
            ·rw [if_neg c64] at H
             exact absurd H (by simp)
           ·replace c62 := Bool.eq_false_iff.mpr c62
            subst c62
            have H1 : (if (t391.length : Int) > 0 then (some false) else ((gradinelaw20_same.f kj24).bind fun t405 => (some t405))) = some true := by rw [if_neg (show ¬ (false = true) by decide)] at H; exact H
            clear H
            have H := H1
            clear H1
            by_cases c72 : (t391.length : Int) > 0
            ·rw [if_pos c72] at H
             have c72b0 : decide (0 < (t391.length : Int)) = true := decide_eq_true c72
             have c72b1 : decide (0 < t391.length) = true := decide_eq_true (by omega)
             clear c72
             exact absurd H (by simp)
            ·rw [if_neg c72] at H
             have c72b0 : decide (0 < (t391.length : Int)) = false := decide_eq_false c72
             have c72b1 : decide (0 < t391.length) = false := decide_eq_false (by omega)
             clear c72
             replace H := Option.bind_eq_some_iff.mp H
             obtain ⟨t405, A730, H⟩ := H
             replace H : (some t405) = some true := H
             have A73 := Aside0.mk A730
             clear A730
             have hv_ := Aside0.mk (Option.some.inj H)
             clear H
             obtain ⟨Ao74, co74, eo74⟩ := Kd.R_slice HO_10.out
             subst eo74
             obtain ⟨Ao75, co75, eo75⟩ := Kd.R_slice HO_14.out
             subst eo75
             go_wp2_with (first | (go_at_call 27; (with_reducible refine (gradinelaw20_same.calls kj24  t405 _ A73.out).mono ?_); rintro e w76 ⟨rfl, hb⟩; have n0_ := Aside0.mk (Kd.N_below (by (with_reducible repeat (first | apply Kd.N_alloc | apply Kd.N_drewN | apply Kd.N_drew)); exact HO_7.out) hb); have n1_ := Aside0.mk (Kd.R_below (pR HO_10.out) hb); have n2_ := Aside0.mk (Kd.R_below (pR HO_14.out) hb); have n3_ := Aside0.mk (below_step (pB HB.out) hb); clear HO_7; clear HO_10; clear HO_14; clear HB; have HO_7 := n0_; have HO_10 := n1_; have HO_14 := n2_; have HB := n3_; clear n0_ n1_ n2_ n3_; (try clear hb); (try clear hb2); (try clear hk); (try clear hi)))
             repeat (go_quiet (first | (go_at_call 27; (with_reducible refine (gradinelaw20_same.calls kj24  t405 _ A73.out).mono ?_); rintro e w76 ⟨rfl, hb⟩; have n0_ := Aside0.mk (Kd.N_below (by (with_reducible repeat (first | apply Kd.N_alloc | apply Kd.N_drewN | apply Kd.N_drew)); exact HO_7.out) hb); have n1_ := Aside0.mk (Kd.R_below (pR HO_10.out) hb); have n2_ := Aside0.mk (Kd.R_below (pR HO_14.out) hb); have n3_ := Aside0.mk (below_step (pB HB.out) hb); clear HO_7; clear HO_10; clear HO_14; clear HB; have HO_7 := n0_; have HO_10 := n1_; have HO_14 := n2_; have HB := n3_; clear n0_ n1_ n2_ n3_; (try clear hb); (try clear hb2); (try clear hk); (try clear hi))); try go_wp2_with (first | (go_at_call 27; (with_reducible refine (gradinelaw20_same.calls kj24  t405 _ A73.out).mono ?_); rintro e w76 ⟨rfl, hb⟩; have n0_ := Aside0.mk (Kd.N_below (by (with_reducible repeat (first | apply Kd.N_alloc | apply Kd.N_drewN | apply Kd.N_drew)); exact HO_7.out) hb); have n1_ := Aside0.mk (Kd.R_below (pR HO_10.out) hb); have n2_ := Aside0.mk (Kd.R_below (pR HO_14.out) hb); have n3_ := Aside0.mk (below_step (pB HB.out) hb); clear HO_7; clear HO_10; clear HO_14; clear HB; have HO_7 := n0_; have HO_10 := n1_; have HO_14 := n2_; have HB := n3_; clear n0_ n1_ n2_ n3_; (try clear hb); (try clear hb2); (try clear hk); (try clear hi))))
             go_ret
             replace hv_ := hv_.out
             exact ⟨pE, pB HB.out⟩
  ·rw [if_neg c10] at H
   have c10b0 : ((t379.length : Int) == (t376.length : Int)) = false := beq_eq_false_iff_ne.mpr c10
   have c10b1 : ((t379.length : Int) != (t376.length : Int)) = true := bne_iff_ne.mpr c10
   have c10b2 : (t379.length == t376.length) = false := by first | simpa using c10 | (simp at c10 ⊢; omega)
   exact absurd H (by simp)

/-- THE ONE PURE STATEMENT of gradinelaw20_WalkTells: yours. -/
def gradinelaw20_WalkTells.Pure : Prop := ∀ (l0 : List Int) (l1 : List Int) (a2 : Int), l0.length ≤ maxLen → l0.length * 8 ≤ 140737488351232 → (∀ x ∈ l0, (Lit.int .i64 x).wf = true) → l1.length ≤ maxLen → l1.length * 8 ≤ 140737488351232 → (∀ x ∈ l1, (Lit.int .i64 x).wf = true) → (Lit.int .i64 a2).wf = true → ∃ k, gradinelaw20_WalkTells.f k l0 l1 a2 = some true
theorem gradinelaw20_WalkTells.walk (P : gradinelaw20_WalkTells.Pure) (a0 : Option Addr) (len0 cap0 : Nat) (z0 : List Int) (a1 : Option Addr) (len1 cap1 : Nat) (z1 : List Int) (a2 : Int) (w : World) (w0 : (a0 = none ∧ len0 = 0 ∧ cap0 = 0 ∧ z0 = []) ∨ ∃ x, a0 = some x ∧ len0 ≤ cap0 ∧ cap0 ≤ maxLen ∧ z0.length = cap0 ∧ (∀ i, i < z0.length → w.cell? (x.add i) = some (.int .i64 (z0.getD i 0))) ∧ ∀ n ∈ z0, (Lit.int .i64 n).wf = true) (y0 : len0 * 8 ≤ 140737488351232) (w1 : (a1 = none ∧ len1 = 0 ∧ cap1 = 0 ∧ z1 = []) ∨ ∃ x, a1 = some x ∧ len1 ≤ cap1 ∧ cap1 ≤ maxLen ∧ z1.length = cap1 ∧ (∀ i, i < z1.length → w.cell? (x.add i) = some (.int .i64 (z1.getD i 0))) ∧ ∀ n ∈ z1, (Lit.int .i64 n).wf = true) (y1 : len1 * 8 ≤ 140737488351232) (w2 : (Lit.int .i64 a2).wf = true) :
  Calls Try.prog 7 #[.slice a0 len0 cap0, .slice a1 len1 cap1, .int .i64 a2] w fun e w' => e = .returned (.bool true) ∧ Below w.heap.size w w' := by
 obtain ⟨l0, rfl, hr0, hm0, hw0, hc0⟩ := ReadsInt.ofRowC w0
 obtain ⟨l1, rfl, hr1, hm1, hw1, hc1⟩ := ReadsInt.ofRowC w1
 obtain ⟨k, h⟩ := P l0 l1 a2 hm0 y0 hw0 hm1 y1 hw1 w2
 refine (gradinelaw20_WalkTells.calls k _ _ l0 _ _ l1 a2 w (Kd.C_of_reads (d := (0 : Int)) (h1 := fun _ => rfl) hr0) hc0 (Kd.C_of_reads (d := (0 : Int)) (h1 := fun _ => rfl) hr1) hc1 h).mono ?_
 rintro e w' ⟨rfl, hd⟩
 exact ⟨rfl, hd⟩

end Go.Proofs.Ytpoldofghcmfnaa.Q
