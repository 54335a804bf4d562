/- Texts of the proof of ViewViews, part 1: what functions of the program compute, and that they compute it. -/
import Derived.Test.YtjbpekblcecneaaWordsMore
import Derived.Test.YtjbpekblcecneaaKViewViews0
namespace Go.Proofs.Ytjbpekblcecneaa.Q
open Go.RowKit Go.Proofs.YtjbpekblcecneaaW.PrintWords Go.Proofs.YtjbpekblcecneaaW.PrintLast Go.Proofs.YtjbpekblcecneaaW.PrintMore
attribute [local go_sem] max2_int min2_int max_two min_two max_three min_three max_four min_four   -- for this text's walks alone
set_option linter.unusedVariables false
set_option linter.unusedSimpArgs false
def shape_Same.f (k : Nat) (l0 : List Int) (l1 : List Int) : Option (Bool) := (slices_Equal_int_int.f k l0 l1).bind fun t432 => (some t432)
set_option maxHeartbeats 8000000 in
set_option maxRecDepth 100000 in
theorem shape_Same.calls (k : Nat) (A0 : Option Addr) (c0 : Nat) (l0 : List Int) (A1 : Option Addr) (c1 : Nat) (l1 : List Int) (r : Bool) (w : World) (hr0 : Kd.C (Kd.int .i64) w A0 l0.length l0) (hc0 : l0.length ≤ c0) (hr1 : Kd.C (Kd.int .i64) w A1 l1.length l1) (hc1 : l1.length ≤ c1) (h : shape_Same.f k l0 l1 = some r) :
  Calls Try.prog 64 #[.slice A0 l0.length c0, .slice A1 l1.length c1] w fun e w' => e = .returned (.bool r) ∧ Drawn0 w w' := by
 have HR0 := aM hr0
 have HC0 := aM hc0
 clear hr0 hc0
 have HR1 := aM hr1
 have HC1 := aM hc1
 clear hr1 hc1
 have H : ((slices_Equal_int_int.f k l0 l1).bind fun t432 => (some t432)) = some r := h
 clear h
 replace H := Option.bind_eq_some_iff.mp H
 obtain ⟨t432, A30, H⟩ := H
 try dsimp only at H
 have A3 := aM A30
 clear A30
 obtain rfl := Option.some.inj H
 go_enter Try.func64, Try.ntmps64
 go_wp2_with (first | ((with_reducible refine gate_callee (f := 71) rfl ?_); refine goesL_ (some 7) rfl rfl Try.func71 (by kernel_rfl) rfl #[.slice A0 l0.length c0, .slice A1 l1.length c1] rfl pA ?_; (with_reducible refine (slices_Equal_int_int.calls k _ _ l0 _ _ l1 t432 _ ?s1 ?s2 ?s3 ?s4 A3.out).mono ?_); (case s1 => exact pC HR0.out); (case s2 => exact HC0.out); (case s3 => exact pC HR1.out); (case s4 => exact HC1.out); rintro e w' ⟨rfl, ⟨nd, rfl⟩⟩; refine ⟨_, rfl, ?_⟩))
 go_ret
 exact ⟨pF, by repeat (first | exact Drawn0.refl _ | apply Drawn0.step)⟩
def spread_size.f (l0 : List Int) (a1 : Int) : Option (Int) := if a1 > (l0.length : Int) then (some 1) else (if 0 ≤ (wrap64 ((l0.length : Int) - a1)) then (if (wrap64 ((l0.length : Int) - a1)) < (l0.length : Int) then (some (rd l0 (wrap64 ((l0.length : Int) - a1)))) else (none)) else (none))
set_option maxHeartbeats 8000000 in
set_option maxRecDepth 100000 in
theorem spread_size.calls (A0 : Option Addr) (c0 : Nat) (l0 : List Int) (a1 : Int) (r : Int) (w : World) (hr0 : Kd.C (Kd.int .i64) w A0 l0.length l0) (hc0 : l0.length ≤ c0) (h : spread_size.f l0 a1 = some r) :
  Calls Try.prog 70 #[.slice A0 l0.length c0, .int .i64 a1] w fun e w' => e = .returned (.int .i64 r) ∧ Drawn0 w w' := by
 have HR0 := aM hr0
 have HC0 := aM hc0
 clear hr0 hc0
 have H : (if a1 > (l0.length : Int) then (some 1) else (if 0 ≤ (wrap64 ((l0.length : Int) - a1)) then (if (wrap64 ((l0.length : Int) - a1)) < (l0.length : Int) then (some (rd l0 (wrap64 ((l0.length : Int) - a1)))) else (none)) else (none))) = some r := h
 clear h
 by_cases c3 : a1 > (l0.length : Int)
 ·rw [if_pos c3] at H
  have c3b0 : decide ((l0.length : Int) < a1) = true := decide_eq_true c3
  clear c3
  obtain rfl := Option.some.inj H
  go_enter Try.func70, Try.ntmps70
  go_wp2
  go_ret
  exact ⟨pF, by repeat (first | exact Drawn0.refl _ | apply Drawn0.step)⟩
 rw [if_neg c3] at H
 have c3b0 : decide ((l0.length : Int) < a1) = false := decide_eq_false c3
 clear c3
 obtain ⟨ji4, hji4⟩ : ∃ j_ : Int, (wrap64 ((l0.length : Int) - a1)) = j_ := ⟨_, rfl⟩
 replace H : (if 0 ≤ (ji4) then (if (ji4) < (l0.length : Int) then (some (rd l0 (ji4))) else (none)) else (none)) = some r := by first | (rw [hji4] at H; exact H) | (simp only [hji4] at H ⊢; exact H)
 have hji4w : (IntKind.i64.wrap ((l0.length : Int) - a1)) = ji4 := (i64_w _).trans hji4
 by_cases c5 : 0 ≤ (ji4)
 rotate_left
 ·rw [if_neg c5] at H
  exact absurd H (by simp)
 rw [if_pos c5] at H
 have c5b0 : decide (0 ≤ (ji4)) = true := decide_eq_true c5
 clear c5
 by_cases c6 : (ji4) < (l0.length : Int)
 rotate_left
 ·rw [if_neg c6] at H
  exact absurd H (by simp)
 rw [if_pos c6] at H
 have c6b0 : decide ((ji4) < (l0.length : Int)) = true := decide_eq_true c6
 clear c6
 obtain rfl := Option.some.inj H
 have p415 : 0 ≤ ((ji4) : Int) := of_decide_eq_true pD
 have q415 : (ji4) < (l0.length : Int) := of_decide_eq_true pD
 obtain ⟨ad415, e415, hx415_0⟩ := Kd.at_int HR0.out (ji4) p415 q415
 cases e415
 replace p415 := eq_true p415
 replace q415 := eq_true q415
 go_enter Try.func70, Try.ntmps70
 go_wp2
 go_ret
 exact ⟨by first | rfl | (simp; done) | (simp only [← hji4] <;> (first | rfl | simp)) | (simp [*]; done), by repeat (first | exact Drawn0.refl _ | apply Drawn0.step)⟩
mutual
def spread_Two.l0 : Nat → List Int → List Int → List (List Int) → Int → Int → Option (List Int × Int)
 | 0, _, _, _, _, _ => none
 | k + 1, x0, x1, x17, x18, x19 => if x19 < x18 then (if 0 ≤ x19 then (if x19 < (x17.length : Int) then ((shape_Check.f (rd_L1 x17 x19)).bind fun t420 => (if t420 = 0 then (spread_Two.l0 k x0 x1 x17 x18 (wrap64 (x19 + 1))) else (some (([] : List Int), t420)))) else (none)) else (none)) else (if 0 ≤ (mx (x0.length : Int) (x1.length : Int)) then (if (mx (x0.length : Int) (x1.length : Int) : Int).toNat ≤ 35184372088832 then (spread_Two.l1 k x0 x1 (mx (x0.length : Int) (x1.length : Int)) (List.replicate (mx (x0.length : Int) (x1.length : Int) : Int).toNat 0) 1) else (none)) else (none))
def spread_Two.l1 : Nat → List Int → List Int → Int → List Int → Int → Option (List Int × Int)
 | 0, _, _, _, _, _ => none
 | k + 1, x0, x1, x9, x10, x11 => if x11 ≤ x9 then ((spread_size.f x0 x11).bind fun t425 => ((spread_size.f x1 x11).bind fun t426 => (if t425 = t426 then (if 0 ≤ (wrap64 (x9 - x11)) then (if (wrap64 (x9 - x11)) < (x10.length : Int) then (spread_Two.l1 k x0 x1 x9 (x10.set ((wrap64 (x9 - x11)) : Int).toNat (mx t425 t426)) (wrap64 (x11 + 1))) else (none)) else (none)) else (if t425 = 1 then (if 0 ≤ (wrap64 (x9 - x11)) then (if (wrap64 (x9 - x11)) < (x10.length : Int) then (spread_Two.l1 k x0 x1 x9 (x10.set ((wrap64 (x9 - x11)) : Int).toNat (mx t425 t426)) (wrap64 (x11 + 1))) else (none)) else (none)) else (if t426 = 1 then (if 0 ≤ (wrap64 (x9 - x11)) then (if (wrap64 (x9 - x11)) < (x10.length : Int) then (spread_Two.l1 k x0 x1 x9 (x10.set ((wrap64 (x9 - x11)) : Int).toNat (mx t425 t426)) (wrap64 (x11 + 1))) else (none)) else (none)) else (some (([] : List Int), 8))))))) else ((shape_Check.f x10).bind fun t424 => (if t424 = 0 then (some (x10, 0)) else (some (([] : List Int), t424))))
end
def spread_Two.f (k : Nat) (l0 : List Int) (l1 : List Int) : Option (List Int × Int) := (some (([l0, l1] : List (List Int)) : List (List Int))).bind fun y416 => (spread_Two.l0 k l0 l1 y416 (y416.length : Int) 0)
set_option maxHeartbeats 8000000 in
set_option maxRecDepth 100000 in
theorem spread_Two.calls (k : Nat) (P0_ : Nat → Prop) (A0 : Option Addr) (c0 : Nat) (l0 : List Int) (P1_ : Nat → Prop) (A1 : Option Addr) (c1 : Nat) (l1 : List Int) (r1 : List Int) (r2 : Int) (w : World) (hs0 : Kd.V (Kd.int .i64) 3 w w.heap.size (fun k_ => P0_ k_) (.slice A0 l0.length c0) l0) (hs1 : Kd.V (Kd.int .i64) 3 w w.heap.size (fun k_ => P1_ k_) (.slice A1 l1.length c1) l1) (h : spread_Two.f k l0 l1 = some (r1, r2)) :
  Calls Try.prog 63 #[.slice A0 l0.length c0, .slice A1 l1.length c1] w fun e w' => ∃ v0_ : Value, e = .returned (.tuple #[v0_, .int .i64 r2]) ∧ Kd.R (Kd.int .i64) 3 w' w.heap.size (fun k_ => (w.heap.size ≤ k_)) v0_ r1 ∧ Below w.heap.size w w' := by
 have HO0 := aM (show Kd.V (Kd.int .i64) 3 w w.heap.size (fun k_ => ((P0_ k_ ∨ P1_ k_) ∨ w.heap.size ≤ k_)) (.slice A0 l0.length c0) l0 from Kd.V_mono hs0 (fun k_ hk => .inl (.inl hk)))
 have HO1 := aM (show Kd.V (Kd.int .i64) 3 w w.heap.size (fun k_ => ((P0_ k_ ∨ P1_ k_) ∨ w.heap.size ≤ k_)) (.slice A1 l1.length c1) l1 from Kd.V_mono hs1 (fun k_ hk => .inl (.inr hk)))
 have HB := aM (Below.refl w.heap.size w)
 have H : ((some (([l0, l1] : List (List Int)) : List (List Int))).bind fun y416 => (spread_Two.l0 k l0 l1 y416 (y416.length : Int) 0)) = some (r1, r2) := h
 clear h
 obtain ⟨y416, hy416⟩ : ∃ y_ : List (List Int), y_ = (([l0, l1] : List (List Int))) := ⟨_, rfl⟩
 replace H : (spread_Two.l0 k l0 l1 y416 (y416.length : Int) 0) = some (r1, r2) := pH hy416 H
 have Ny416 := aM hy416
 clear hy416
 have H' := aM H
 clear H
 go_enter Try.func63, Try.ntmps63
 go_wp2_with (first | ((with_reducible refine gate_dst (N := 17) rfl ?_); refine Kd.N_lit (Kd.slice 3 (Kd.int .i64)) _ 22 ?hg (N' := 17) ?hd (xs := ([l0, l1] : List (List Int))) (inner := [.slice A0 l0.length c0, .slice A1 l1.length c1]) (ok := (fun k_ => ((P0_ k_ ∨ P1_ k_) ∨ w.heap.size ≤ k_))) (okp := (fun k_ => ((P0_ k_ ∨ P1_ k_) ∨ w.heap.size ≤ k_))) ?hr ?hp (fun _ hk => hk) ((show ∀ k_, w.heap.size ≤ k_ → (fun k_ => ((P0_ k_ ∨ P1_ k_) ∨ w.heap.size ≤ k_)) k_ from fun k_ hk => (.inr (Nat.le_trans (below_size (qB HB)) hk))) _ (Nat.le_refl _)) (Below.refl _ _) (Nat.le_refl _) (by simp) ?_; (case hd => rfl); (case hg => rfl); (case hr => first | (go_simp; done) | (go_simp; rfl)); (case hp => exact (Reps.one (show Kd.FK (Kd.slice 3 (Kd.int .i64)) _ _ l0 [.slice A0 l0.length c0] from (Kd.FK_slice_mk (Kd.V_reads' (Kd.V_mono (ok' := (fun k_ => ((P0_ k_ ∨ P1_ k_) ∨ w.heap.size ≤ k_))) (HO0.out) (fun k_ hk => hk))).2.1 (Kd.V_F (Kd.V_mono (ok' := (fun k_ => ((P0_ k_ ∨ P1_ k_) ∨ w.heap.size ≤ k_))) (HO0.out) (fun k_ hk => hk))))) (Reps.one (show Kd.FK (Kd.slice 3 (Kd.int .i64)) _ _ l1 [.slice A1 l1.length c1] from (Kd.FK_slice_mk (Kd.V_reads' (Kd.V_mono (ok' := (fun k_ => ((P0_ k_ ∨ P1_ k_) ∨ w.heap.size ≤ k_))) (HO1.out) (fun k_ hk => hk))).2.1 (Kd.V_F (Kd.V_mono (ok' := (fun k_ => ((P0_ k_ ∨ P1_ k_) ∨ w.heap.size ≤ k_))) (HO1.out) (fun k_ hk => hk))))) (Reps.none _ _)))); intro v417 w3 ho4 hb hg_ hnew_; clear hg_ hnew_; (first | rw [← Ny416.out] at ho4 | (simp only [Int.reduceToNat] at ho4; rw [← Ny416.out] at ho4)); replace HO0 := aM (Kd.V_elder' (pV HO0.out) (Kd.N_base ho4) hb); replace HO1 := aM (Kd.V_elder' (pV HO1.out) (Kd.N_base ho4) hb); have HO418 := aM (Kd.N_lower ho4 (below_size (qB HB))); replace HB := bS (qB HB) hb; clear hb ho4; obtain ⟨Ao5, co5, eo5⟩ := Kd.N_slice HO418.out; subst eo5))
 go_loopg [19] k (fun kq v19 w' => ∃ (x19_1 : Int), v19 = .int .i64 x19_1 ∧ Aside0 (spread_Two.l0 kq l0 l1 y416 (y416.length : Int) x19_1 = some (r1, r2)) ∧ Aside0 (kq ≤ k) ∧ Aside0 (Kd.V (Kd.int .i64) 3 w' w.heap.size (fun k_ => ((P0_ k_ ∨ P1_ k_) ∨ w.heap.size ≤ k_) ∧ some k_ ≠ ((.slice Ao5 y416.length co5) : Value).ownBlock) (.slice A0 l0.length c0) l0) ∧ Aside0 (Kd.V (Kd.int .i64) 3 w' w.heap.size (fun k_ => ((P0_ k_ ∨ P1_ k_) ∨ w.heap.size ≤ k_) ∧ some k_ ≠ ((.slice Ao5 y416.length co5) : Value).ownBlock) (.slice A1 l1.length c1) l1) ∧ Aside0 (Kd.N (Kd.slice 3 (Kd.int .i64)) 22 w' w.heap.size (fun k_ => ((P0_ k_ ∨ P1_ k_) ∨ w.heap.size ≤ k_)) (.slice Ao5 y416.length co5) y416) ∧ Aside0 (Below w.heap.size w w'))
 case atStart => exact ⟨(0), (pF), H', ⟨Nat.le_refl _⟩, ⟨pV HO0.out⟩, ⟨pV HO1.out⟩, ⟨by (with_reducible repeat (first | apply Kd.N_alloc | apply Kd.N_drewN | apply Kd.N_drew)); exact HO418.out⟩, ⟨qB HB⟩⟩
 case round =>
  clear H'
  try clear c1
  obtain ⟨x19_1, rfl, HA, HK1, HO_0, HO_1, HO_17, HB⟩ := hrel
  cases gk with
  | zero => exact absurd HA.out (by simp [spread_Two.l0])
  | succ k1 =>
   have H := HA.out
   clear HA
   simp only [spread_Two.l0] at H
   by_cases c6 : x19_1 < (y416.length : Int)
   ·rw [if_pos c6] at H
    have c6b0 : decide (x19_1 < (y416.length : Int)) = true := decide_eq_true c6
    clear c6
    by_cases c7 : 0 ≤ x19_1
    rotate_left
    ·rw [if_neg c7] at H
     exact absurd H (by simp)
    rw [if_pos c7] at H
    have c7b0 : decide (0 ≤ x19_1) = true := decide_eq_true c7
    clear c7
    by_cases c8 : x19_1 < (y416.length : Int)
    rotate_left
    ·rw [if_neg c8] at H
     exact absurd H (by simp)
    rw [if_pos c8] at H
    have c8b0 : decide (x19_1 < (y416.length : Int)) = true := decide_eq_true c8
    clear c8
    replace H := Option.bind_eq_some_iff.mp H
    obtain ⟨t420, A90, H⟩ := H
    try dsimp only at H
    have A9 := aM A90
    clear A90
    by_cases c10 : t420 = 0
    rotate_left
    ·rw [if_neg c10] at H
     have c10b0 : (t420 == 0) = false := beq_eq_false_iff_ne.mpr c10
     have c10b1 : (t420 != 0) = true := bne_iff_ne.mpr c10
     simp only [Option.some.injEq, Prod.mk.injEq] at H
     obtain ⟨rfl, rfl⟩ := H
     have p419 : 0 ≤ (x19_1 : Int) := of_decide_eq_true pD
     have q419 : x19_1 < (y416.length : Int) := of_decide_eq_true pD
     obtain ⟨ad419, A419_0, c419_0, e419, hx419_0, hl419_0, hi419_0⟩ := at_L1 (Kd.N_reads' HO_17.out).2.2 x19_1 p419 q419
     cases e419
     obtain ⟨ce419, hce419, hMe419, hcc419⟩ := Kd.N_get HO_17.out [] x19_1 p419 (by first | exact q419 | exact of_decide_eq_true pD | (have e_ := (Kd.N_reads' HO_17.out).1; omega))
     obtain ⟨ua419_0, uc419_0, rfl, ul419_0, ge419_0⟩ := Kd.FK_slice_open hMe419
     have hv419_0 := hcc419 0 _ rfl
     rw [Nat.add_zero, show ((Kd.slice 3 (Kd.int .i64))).sz = 1 from rfl, Nat.mul_one] at hv419_0
     replace hv419_0 := Option.some.inj (hv419_0.symm.trans hx419_0)
     injection hv419_0 with hva_ hvn_ hvc_
     rw [hva_] at ge419_0
     rw [hvc_] at ul419_0
     have HL419_0 := aM (show Kd.V (Kd.int .i64) 3 _ w.heap.size _ _ (rd_L1 y416 x19_1) from Kd.V_mk ul419_0 ge419_0)
     clear hva_ hvn_ hvc_ ge419_0 ul419_0
     clear hcc419 hce419
     have HR419_0 := aM hi419_0
     have HC419_0 := aM hl419_0
     clear hi419_0 hl419_0
     replace p419 := eq_true p419
     replace q419 := eq_true q419
     go_wp2_with (first | ((with_reducible refine gate_callee (f := 41) rfl ?_); refine goesL_ (some 24) rfl rfl Try.func41 (by kernel_rfl) rfl #[.slice A419_0 (rd_L1 y416 x19_1).length c419_0] rfl pA ?_; (with_reducible refine (shape_Check.calls _ _ (rd_L1 y416 x19_1) t420 _ ?s1 ?s2 A9.out).mono ?_); (case s1 => repeat (first | exact (by repeat (first | (with_reducible exact HR419_0.out) | (with_reducible refine Kd.C_alloc ?_ _) | (with_reducible refine Kd.C_drewN ?_ _) | (with_reducible refine Kd.C_drew ?_) | exact HR419_0.out)) | (with_reducible refine Kd.C_alloc ?_ _) | (with_reducible refine Kd.C_drewN ?_ _) | (with_reducible refine Kd.C_drew ?_))); (case s2 => exact HC419_0.out); rintro e w' ⟨rfl, ⟨nd, rfl⟩⟩; refine ⟨_, rfl, ?_⟩))
     go_ret2
     exact ⟨_, pE, pN, qB HB⟩
    rw [if_pos c10] at H
    have c10b0 : (t420 == 0) = true := beq_iff_eq.mpr c10
    have c10b1 : (t420 != 0) = false := bne_eq_false_iff_eq.mpr c10
    clear c10
    have H' := aM H
    clear H
    have p419 : 0 ≤ (x19_1 : Int) := of_decide_eq_true pD
    have q419 : x19_1 < (y416.length : Int) := of_decide_eq_true pD
    obtain ⟨ad419, A419_0, c419_0, e419, hx419_0, hl419_0, hi419_0⟩ := at_L1 (Kd.N_reads' HO_17.out).2.2 x19_1 p419 q419
    cases e419
    obtain ⟨ce419, hce419, hMe419, hcc419⟩ := Kd.N_get HO_17.out [] x19_1 p419 (by first | exact q419 | exact of_decide_eq_true pD | (have e_ := (Kd.N_reads' HO_17.out).1; omega))
    obtain ⟨ua419_0, uc419_0, rfl, ul419_0, ge419_0⟩ := Kd.FK_slice_open hMe419
    have hv419_0 := hcc419 0 _ rfl
    rw [Nat.add_zero, show ((Kd.slice 3 (Kd.int .i64))).sz = 1 from rfl, Nat.mul_one] at hv419_0
    replace hv419_0 := Option.some.inj (hv419_0.symm.trans hx419_0)
    injection hv419_0 with hva_ hvn_ hvc_
    rw [hva_] at ge419_0
    rw [hvc_] at ul419_0
    have HL419_0 := aM (show Kd.V (Kd.int .i64) 3 _ w.heap.size _ _ (rd_L1 y416 x19_1) from Kd.V_mk ul419_0 ge419_0)
    clear hva_ hvn_ hvc_ ge419_0 ul419_0
    clear hcc419 hce419
    have HR419_0 := aM hi419_0
    have HC419_0 := aM hl419_0
    clear hi419_0 hl419_0
    replace p419 := eq_true p419
    replace q419 := eq_true q419
    go_wp2_with (first | ((with_reducible refine gate_callee (f := 41) rfl ?_); refine goesL_ (some 24) rfl rfl Try.func41 (by kernel_rfl) rfl #[.slice A419_0 (rd_L1 y416 x19_1).length c419_0] rfl pA ?_; (with_reducible refine (shape_Check.calls _ _ (rd_L1 y416 x19_1) t420 _ ?s1 ?s2 A9.out).mono ?_); (case s1 => repeat (first | exact (by repeat (first | (with_reducible exact HR419_0.out) | (with_reducible refine Kd.C_alloc ?_ _) | (with_reducible refine Kd.C_drewN ?_ _) | (with_reducible refine Kd.C_drew ?_) | exact HR419_0.out)) | (with_reducible refine Kd.C_alloc ?_ _) | (with_reducible refine Kd.C_drewN ?_ _) | (with_reducible refine Kd.C_drew ?_))); (case s2 => exact HC419_0.out); rintro e w' ⟨rfl, ⟨nd, rfl⟩⟩; refine ⟨_, rfl, ?_⟩))
    go_roundg k1
    case measure => have := HK1.out; omega
    case rel => exact ⟨(wrap64 (x19_1 + 1)), (pF), H', ⟨by have := HK1.out; omega⟩, ⟨pV HO_0.out⟩, ⟨pV HO_1.out⟩, ⟨by (with_reducible repeat (first | apply Kd.N_alloc | apply Kd.N_drewN | apply Kd.N_drew)); exact HO_17.out⟩, ⟨qB HB⟩⟩
   rw [if_neg c6] at H
   have c6b0 : decide (x19_1 < (y416.length : Int)) = false := decide_eq_false c6
   clear c6
   obtain ⟨ji11, hji11⟩ : ∃ j_ : Int, (mx (l0.length : Int) (l1.length : Int)) = j_ := ⟨_, rfl⟩
   replace H : (if 0 ≤ (ji11) then (if (ji11 : Int).toNat ≤ 35184372088832 then (spread_Two.l1 k1 l0 l1 ji11 (List.replicate (ji11 : Int).toNat 0) 1) else (none)) else (none)) = some (r1, r2) := by first | (rw [hji11] at H; exact H) | (simp only [hji11] at H ⊢; exact H)
   have hji11_ : (if (l0.length : Int) < (l1.length : Int) then (l1.length : Int) else (l0.length : Int)) = ji11 := hji11
   have hji11_n : (if l0.length < l1.length then (l1.length : Int) else (l0.length : Int)) = ji11 := by simpa only [Int.ofNat_lt] using hji11_
   by_cases c12 : 0 ≤ (ji11)
   rotate_left
   ·rw [if_neg c12] at H
    exact absurd H (by simp)
   rw [if_pos c12] at H
   have c12b0 := eq_true c12
   have c12b1 : decide (0 ≤ (ji11)) = true := decide_eq_true c12
   clear c12
   by_cases c13 : (ji11 : Int).toNat ≤ 35184372088832
   rotate_left
   ·rw [if_neg c13] at H
    exact absurd H (by simp)
   rw [if_pos c13] at H
   have c13b0 := eq_true c13
   have c13b1 : decide ((ji11 : Int).toNat ≤ 35184372088832) = true := decide_eq_true c13
   clear c13
   obtain ⟨y421, hy421⟩ : ∃ y_ : List Int, y_ = (List.replicate (ji11 : Int).toNat 0) := ⟨_, rfl⟩
   replace H : (spread_Two.l1 k1 l0 l1 ji11 y421 1) = some (r1, r2) := pH hy421 H
   have Ny421 := aM hy421
   clear hy421
   have H' := aM H
   clear H
   go_wp2_with (first | ((with_reducible refine gate_dst (N := 35) rfl ?_); refine Kd.R_make (Kd.int .i64) _ 3 rfl (N := 35) rfl 22 _ _ rfl ji11 rfl rfl Try.underlying22 (.int .i64 0) 8 info3 rfl (by decide) (by omega) 0 (ok := fun _ => True) (okp := fun _ => True) rfl (fun _ hk => hk) trivial (of_decide_eq_true pD) (Nat.le_trans (Nat.mul_le_mul_right _ (of_decide_eq_true pD : ji11.toNat ≤ 35184372088832)) (by omega)) (Below.refl _ _) (Nat.le_refl _) ?_; intro v422 w14 ho15 hb hg_ hnew_; clear hg_ hnew_; (first | rw [← Ny421.out] at ho15 | (simp only [Int.reduceToNat] at ho15; rw [← Ny421.out] at ho15)); replace HO_0 := aM (Kd.V_elder' (pV HO_0.out) (Kd.R_base ho15) hb); replace HO_1 := aM (Kd.V_elder' (pV HO_1.out) (Kd.R_base ho15) hb); replace HO_17 := aM (Kd.N_elder' (by (with_reducible repeat (first | apply Kd.N_alloc | apply Kd.N_drewN | apply Kd.N_drew)); exact HO_17.out) (Kd.R_base ho15) hb); have HO423 := aM (Kd.R_lower (Kd.R_newM (M := fun k_ => (w.heap.size ≤ k_)) ho15 (below_size (qB HB)) (fun k_ h_ => h_)) (below_size (qB HB))); replace HB := bS (qB HB) hb; clear hb ho15))
   go_loopg [11] k1 (fun kq v11 w' => ∃ (x10_2 : List Int) (x11_2 : Int), v11 = .int .i64 x11_2 ∧ Aside0 (spread_Two.l1 kq l0 l1 ji11 x10_2 x11_2 = some (r1, r2)) ∧ Aside0 (kq ≤ k1) ∧ Aside0 (Kd.V (Kd.int .i64) 3 w' w.heap.size (fun k_ => ((P0_ k_ ∨ P1_ k_) ∨ w.heap.size ≤ k_) ∧ some k_ ≠ (v422 : Value).ownBlock) (.slice A0 l0.length c0) l0) ∧ Aside0 (Kd.V (Kd.int .i64) 3 w' w.heap.size (fun k_ => ((P0_ k_ ∨ P1_ k_) ∨ w.heap.size ≤ k_) ∧ some k_ ≠ (v422 : Value).ownBlock) (.slice A1 l1.length c1) l1) ∧ Aside0 (Kd.R (Kd.int .i64) 3 w' w.heap.size (fun k_ => (w.heap.size ≤ k_)) v422 x10_2) ∧ Aside0 (Below w.heap.size w w'))
   case atStart => exact ⟨(y421), (1), (pF), H', ⟨Nat.le_refl _⟩, ⟨by (with_reducible repeat (first | apply Kd.V_alloc | apply Kd.V_drewN | apply Kd.V_drew)); exact Kd.V_mono HO_0.out (fun _ hk => ⟨hk.1.1, hk.2⟩)⟩, ⟨by (with_reducible repeat (first | apply Kd.V_alloc | apply Kd.V_drewN | apply Kd.V_drew)); exact Kd.V_mono HO_1.out (fun _ hk => ⟨hk.1.1, hk.2⟩)⟩, ⟨by (with_reducible repeat (first | apply rA | apply rN | apply rD)); exact Kd.R_mono HO423.out (fun _ hk => hk.1)⟩, ⟨qB HB⟩⟩
   case round =>
    clear H'
    try clear c1
    try clear c6b0
    try clear c12b0
    try clear c12b1
    try clear c13b0
    try clear c13b1
    obtain ⟨x10_2, x11_2, rfl, HA, HK2, HO_0, HO_1, HO_10, HB⟩ := hrel
    cases gk with
    | zero => exact absurd HA.out (by simp [spread_Two.l1])
    | succ k2 =>
     have H := HA.out
     clear HA
     simp only [spread_Two.l1] at H
     by_cases c16 : x11_2 ≤ ji11
     rotate_left
     ·rw [if_neg c16] at H
      have c16b0 : decide (x11_2 ≤ ji11) = false := decide_eq_false c16
      clear c16
      replace H := Option.bind_eq_some_iff.mp H
      obtain ⟨t424, A430, H⟩ := H
      try dsimp only at H
      have A43 := aM A430
      clear A430
      by_cases c44 : t424 = 0
      rotate_left
      ·rw [if_neg c44] at H
       have c44b0 : (t424 == 0) = false := beq_eq_false_iff_ne.mpr c44
       have c44b1 : (t424 != 0) = true := bne_iff_ne.mpr c44
       simp only [Option.some.injEq, Prod.mk.injEq] at H
       obtain ⟨rfl, rfl⟩ := H
       obtain ⟨Ao46, co46, eo46⟩ := Kd.R_slice HO_10.out
       subst eo46
       go_wp2_with (first | ((with_reducible refine gate_callee (f := 41) rfl ?_); refine goesL_ (some 67) rfl rfl Try.func41 (by kernel_rfl) rfl #[.slice Ao46 x10_2.length co46] rfl pA ?_; (with_reducible refine (shape_Check.calls _ _ x10_2 t424 _ ?s1 ?s2 A43.out).mono ?_); (case s1 => exact sR HO_10); (case s2 => exact sL HO_10); rintro e w' ⟨rfl, ⟨nd, rfl⟩⟩; refine ⟨_, rfl, ?_⟩))
       go_ret2
       exact ⟨_, by first | rfl | (simp [errW_none, errW_some] <;> rfl) | (simp only [← hji11]; first | rfl | (simp [errW_none, errW_some] <;> rfl)) | (simp [*, errW_none, errW_some] <;> rfl), pN, qB HB⟩
      rw [if_pos c44] at H
      have c44b0 : (t424 == 0) = true := beq_iff_eq.mpr c44
      have c44b1 : (t424 != 0) = false := bne_eq_false_iff_eq.mpr c44
      clear c44
      simp only [Option.some.injEq, Prod.mk.injEq] at H
      obtain ⟨rfl, rfl⟩ := H
      obtain ⟨Ao45, co45, eo45⟩ := Kd.R_slice HO_10.out
      subst eo45
      go_wp2_with (first | ((with_reducible refine gate_callee (f := 41) rfl ?_); refine goesL_ (some 67) rfl rfl Try.func41 (by kernel_rfl) rfl #[.slice Ao45 x10_2.length co45] rfl pA ?_; (with_reducible refine (shape_Check.calls _ _ x10_2 t424 _ ?s1 ?s2 A43.out).mono ?_); (case s1 => exact sR HO_10); (case s2 => exact sL HO_10); rintro e w' ⟨rfl, ⟨nd, rfl⟩⟩; refine ⟨_, rfl, ?_⟩))
      go_ret2
      exact ⟨_, by first | rfl | (simp [errW_none, errW_some] <;> rfl) | (simp only [← hji11]; first | rfl | (simp [errW_none, errW_some] <;> rfl)) | (simp [*, errW_none, errW_some] <;> rfl), pR HO_10.out, qB HB⟩
     rw [if_pos c16] at H
     have c16b0 : decide (x11_2 ≤ ji11) = true := decide_eq_true c16
     clear c16
     replace H := Option.bind_eq_some_iff.mp H
     obtain ⟨t425, A170, H⟩ := H
     try dsimp only at H
     have A17 := aM A170
     clear A170
     replace H := Option.bind_eq_some_iff.mp H
     obtain ⟨t426, A180, H⟩ := H
     try dsimp only at H
     have A18 := aM A180
     clear A180
     by_cases c19 : t425 = t426
     ·rw [if_pos c19] at H
      have c19b0 : (t425 == t426) = true := beq_iff_eq.mpr c19
      have c19b1 : (t425 != t426) = false := bne_eq_false_iff_eq.mpr c19
      clear c19
      obtain ⟨ji20, hji20⟩ : ∃ j_ : Int, (mx t425 t426) = j_ := ⟨_, rfl⟩
      replace H : (if 0 ≤ (wrap64 (ji11 - x11_2)) then (if (wrap64 (ji11 - x11_2)) < (x10_2.length : Int) then (spread_Two.l1 k2 l0 l1 ji11 (x10_2.set ((wrap64 (ji11 - x11_2)) : Int).toNat (ji20)) (wrap64 (x11_2 + 1))) else (none)) else (none)) = some (r1, r2) := by first | (rw [hji20] at H; exact H) | (simp only [hji20] at H ⊢; exact H)
      (try rw [hji20] at A17)
      (try rw [hji20] at A18)
      have hji20_ : (if t425 < t426 then t426 else t425) = ji20 := hji20
      obtain ⟨ji21, hji21⟩ : ∃ j_ : Int, (wrap64 (ji11 - x11_2)) = j_ := ⟨_, rfl⟩
      replace H : (if 0 ≤ (ji21) then (if (ji21) < (x10_2.length : Int) then (spread_Two.l1 k2 l0 l1 ji11 (x10_2.set ((ji21) : Int).toNat (ji20)) (wrap64 (x11_2 + 1))) else (none)) else (none)) = some (r1, r2) := by first | (rw [hji21] at H; exact H) | (simp only [hji21] at H ⊢; exact H)
      (try rw [hji21] at A17)
      (try rw [hji21] at A18)
      have hji21w : (IntKind.i64.wrap (ji11 - x11_2)) = ji21 := (i64_w _).trans hji21
      by_cases c22 : 0 ≤ (ji21)
      rotate_left
      ·rw [if_neg c22] at H
       exact absurd H (by simp)
      rw [if_pos c22] at H
      have c22b0 : decide (0 ≤ (ji21)) = true := decide_eq_true c22
      clear c22
      by_cases c23 : (ji21) < (x10_2.length : Int)
      rotate_left
      ·rw [if_neg c23] at H
       exact absurd H (by simp)
      rw [if_pos c23] at H
      have c23b0 : decide ((ji21) < (x10_2.length : Int)) = true := decide_eq_true c23
      clear c23
      obtain ⟨y427, hy427⟩ : ∃ y_ : List Int, y_ = (x10_2.set ((ji21) : Int).toNat (ji20)) := ⟨_, rfl⟩
      replace H : (spread_Two.l1 k2 l0 l1 ji11 y427 (wrap64 (x11_2 + 1))) = some (r1, r2) := pH hy427 H
      have Ny427 := aM hy427
      clear hy427
      have H' := aM H
      clear H
      go_wp2_with (first | ((with_reducible refine gate_callee (f := 70) rfl ?_); refine goesL_ (some 43) rfl rfl Try.func70 (by kernel_rfl) rfl #[.slice A0 l0.length c0, .int .i64 x11_2] rfl pA ?_; (with_reducible refine (spread_size.calls _ _ l0 x11_2 t425 _ ?s1 ?s2 A17.out).mono ?_); (case s1 => exact pC (Kd.V_reads' HO_0.out).2.2); (case s2 => exact (Kd.V_reads' HO_0.out).2.1); rintro e w' ⟨rfl, ⟨nd, rfl⟩⟩; refine ⟨_, rfl, ?_⟩; (try (rw [drewN_self wr]; generalize hq_ : World.drewN wr _ = wr; have n0_ : Aside0 (Kd.V (Kd.int .i64) 3 wr w.heap.size (fun k_ => ((P0_ k_ ∨ P1_ k_) ∨ w.heap.size ≤ k_) ∧ some k_ ≠ (v422 : Value).ownBlock) (.slice A0 l0.length c0) l0) := ⟨by rw [← hq_]; exact (pV HO_0.out)⟩; have n1_ : Aside0 (Kd.V (Kd.int .i64) 3 wr w.heap.size (fun k_ => ((P0_ k_ ∨ P1_ k_) ∨ w.heap.size ≤ k_) ∧ some k_ ≠ (v422 : Value).ownBlock) (.slice A1 l1.length c1) l1) := ⟨by rw [← hq_]; exact (pV HO_1.out)⟩; have n2_ : Aside0 (Kd.R (Kd.int .i64) 3 wr w.heap.size (fun k_ => (w.heap.size ≤ k_)) v422 x10_2) := ⟨by rw [← hq_]; exact (pR HO_10.out)⟩; have n3_ : Aside0 (Below w.heap.size w wr) := ⟨by rw [← hq_]; exact (qB HB)⟩; clear HO_0 HO_1 HO_10 HB hq_; have HO_0 := n0_; have HO_1 := n1_; have HO_10 := n2_; have HB := n3_; clear n0_ n1_ n2_ n3_))) | ((with_reducible refine gate_callee (f := 70) rfl ?_); refine goesL_ (some 46) rfl rfl Try.func70 (by kernel_rfl) rfl #[.slice A1 l1.length c1, .int .i64 x11_2] rfl pA ?_; (with_reducible refine (spread_size.calls _ _ l1 x11_2 t426 _ ?s1 ?s2 A18.out).mono ?_); (case s1 => exact pC (Kd.V_reads' HO_1.out).2.2); (case s2 => exact (Kd.V_reads' HO_1.out).2.1); rintro e w' ⟨rfl, ⟨nd, rfl⟩⟩; refine ⟨_, rfl, ?_⟩; (try (rw [drewN_self wr]; generalize hq_ : World.drewN wr _ = wr; have n0_ : Aside0 (Kd.V (Kd.int .i64) 3 wr w.heap.size (fun k_ => ((P0_ k_ ∨ P1_ k_) ∨ w.heap.size ≤ k_) ∧ some k_ ≠ (v422 : Value).ownBlock) (.slice A0 l0.length c0) l0) := ⟨by rw [← hq_]; exact (pV HO_0.out)⟩; have n1_ : Aside0 (Kd.V (Kd.int .i64) 3 wr w.heap.size (fun k_ => ((P0_ k_ ∨ P1_ k_) ∨ w.heap.size ≤ k_) ∧ some k_ ≠ (v422 : Value).ownBlock) (.slice A1 l1.length c1) l1) := ⟨by rw [← hq_]; exact (pV HO_1.out)⟩; have n2_ : Aside0 (Kd.R (Kd.int .i64) 3 wr w.heap.size (fun k_ => (w.heap.size ≤ k_)) v422 x10_2) := ⟨by rw [← hq_]; exact (pR HO_10.out)⟩; have n3_ : Aside0 (Below w.heap.size w wr) := ⟨by rw [← hq_]; exact (qB HB)⟩; clear HO_0 HO_1 HO_10 HB hq_; have HO_0 := n0_; have HO_1 := n1_; have HO_10 := n2_; have HB := n3_; clear n0_ n1_ n2_ n3_)); have p24 : 0 ≤ ((ji21) : Int) := of_decide_eq_true pD; have q24 : ((ji21) : Int) < ((x10_2.length : Int) : Int) := of_decide_eq_true pD; obtain ⟨go24, co24, eo24, gb24, gl24, cl24, HG24⟩ := Kd.R_form HO_10.out (by omega); (first | cases eo24 | (injection eo24 with ea_ en_ ec_; (first | subst ea_ | (injection ea_ with ea_; subst ea_)); subst ec_; clear en_)); have GB24 := aM gb24; have GG24 := aM HG24; clear gb24 gl24 HG24; obtain ⟨hx24_0, hf24_0⟩ := Kd.R_celln 0 HO_10.out ((ji21) : Int) p24 q24; replace p24 := eq_true p24; replace q24 := eq_true q24; obtain ⟨hy25_, hz25_⟩ := Kd.R_celln 0 HO_10.out ((ji21) : Int) (of_decide_eq_true pD) (of_decide_eq_true pD); have HP25 := Kd.R_putg HO_10.out ((ji21) : Int) ji20) | ((with_reducible refine gate_store (t := 3) (p := 65) rfl ?_); refine store_event (t := 3) (p := 65) (v := ?vo_w26) (w1 := (wr.setCell ⟨go24, ((ji21) : Int).toNat, none⟩ (.int .i64 ji20))) ?hg ?ho ?hn ?hr ?_; (case ho => rfl); (case hg => rfl); (case hn => rfl); (case hr => first | (go_simp; done) | (go_simp; rfl)); intro w26 hw; have hg : wr.grownBy w26 (some go24) := (by rw [hw]; exact HP25.2); have hp_ : Kd.R (Kd.int .i64) 3 w26 w.heap.size (fun k_ => (w.heap.size ≤ k_)) (.slice (some ⟨go24, 0, none⟩) x10_2.length co24) y427 := (by rw [hw, Ny427.out]; exact HP25.1); clear HP25; replace HO_0 := aM (Kd.V_afterv (v := (.slice (some ⟨go24, 0, none⟩) x10_2.length co24)) (v1 := (.slice (some ⟨go24, 0, none⟩) x10_2.length co24)) (ok := (fun k_ => ((P0_ k_ ∨ P1_ k_) ∨ w.heap.size ≤ k_))) (pV HO_0.out) hg (.inl rfl)); replace HO_1 := aM (Kd.V_afterv (v := (.slice (some ⟨go24, 0, none⟩) x10_2.length co24)) (v1 := (.slice (some ⟨go24, 0, none⟩) x10_2.length co24)) (ok := (fun k_ => ((P0_ k_ ∨ P1_ k_) ∨ w.heap.size ≤ k_))) (pV HO_1.out) hg (.inl rfl)); replace HO_10 := aM (hp_); replace HB := aM ((by rw [hw]; exact below_set (HB.out) GB24.out : Below w.heap.size w w26)); clear hg hw hp_))
      go_roundg k2
      case measure => have := HK1.out; have := HK2.out; omega
      case rel => exact ⟨(y427), (wrap64 (x11_2 + 1)), (pF), H', ⟨by have := HK1.out; have := HK2.out; omega⟩, ⟨pV HO_0.out⟩, ⟨pV HO_1.out⟩, ⟨pR HO_10.out⟩, ⟨qB HB⟩⟩
     rw [if_neg c19] at H
     have c19b0 : (t425 == t426) = false := beq_eq_false_iff_ne.mpr c19
     have c19b1 : (t425 != t426) = true := bne_iff_ne.mpr c19
     by_cases c27 : t425 = 1
     ·rw [if_pos c27] at H
      have c27b0 : (t425 == 1) = true := beq_iff_eq.mpr c27
      have c27b1 : (t425 != 1) = false := bne_eq_false_iff_eq.mpr c27
      clear c27
      obtain ⟨ji28, hji28⟩ : ∃ j_ : Int, (mx t425 t426) = j_ := ⟨_, rfl⟩
      replace H : (if 0 ≤ (wrap64 (ji11 - x11_2)) then (if (wrap64 (ji11 - x11_2)) < (x10_2.length : Int) then (spread_Two.l1 k2 l0 l1 ji11 (x10_2.set ((wrap64 (ji11 - x11_2)) : Int).toNat (ji28)) (wrap64 (x11_2 + 1))) else (none)) else (none)) = some (r1, r2) := by first | (rw [hji28] at H; exact H) | (simp only [hji28] at H ⊢; exact H)
      (try rw [hji28] at A17)
      (try rw [hji28] at A18)
      have hji28_ : (if t425 < t426 then t426 else t425) = ji28 := hji28
      obtain ⟨ji29, hji29⟩ : ∃ j_ : Int, (wrap64 (ji11 - x11_2)) = j_ := ⟨_, rfl⟩
      replace H : (if 0 ≤ (ji29) then (if (ji29) < (x10_2.length : Int) then (spread_Two.l1 k2 l0 l1 ji11 (x10_2.set ((ji29) : Int).toNat (ji28)) (wrap64 (x11_2 + 1))) else (none)) else (none)) = some (r1, r2) := by first | (rw [hji29] at H; exact H) | (simp only [hji29] at H ⊢; exact H)
      (try rw [hji29] at A17)
      (try rw [hji29] at A18)
      have hji29w : (IntKind.i64.wrap (ji11 - x11_2)) = ji29 := (i64_w _).trans hji29
      by_cases c30 : 0 ≤ (ji29)
      rotate_left
      ·rw [if_neg c30] at H
       exact absurd H (by simp)
      rw [if_pos c30] at H
      have c30b0 : decide (0 ≤ (ji29)) = true := decide_eq_true c30
      clear c30
      by_cases c31 : (ji29) < (x10_2.length : Int)
      rotate_left
      ·rw [if_neg c31] at H
       exact absurd H (by simp)
      rw [if_pos c31] at H
      have c31b0 : decide ((ji29) < (x10_2.length : Int)) = true := decide_eq_true c31
      clear c31
      obtain ⟨y428, hy428⟩ : ∃ y_ : List Int, y_ = (x10_2.set ((ji29) : Int).toNat (ji28)) := ⟨_, rfl⟩
      replace H : (spread_Two.l1 k2 l0 l1 ji11 y428 (wrap64 (x11_2 + 1))) = some (r1, r2) := pH hy428 H
      have Ny428 := aM hy428
      clear hy428
      have H' := aM H
      clear H
      go_wp2_with (first | ((with_reducible refine gate_callee (f := 70) rfl ?_); refine goesL_ (some 43) rfl rfl Try.func70 (by kernel_rfl) rfl #[.slice A0 l0.length c0, .int .i64 x11_2] rfl pA ?_; (with_reducible refine (spread_size.calls _ _ l0 x11_2 t425 _ ?s1 ?s2 A17.out).mono ?_); (case s1 => exact pC (Kd.V_reads' HO_0.out).2.2); (case s2 => exact (Kd.V_reads' HO_0.out).2.1); rintro e w' ⟨rfl, ⟨nd, rfl⟩⟩; refine ⟨_, rfl, ?_⟩; (try (rw [drewN_self wr]; generalize hq_ : World.drewN wr _ = wr; have n0_ : Aside0 (Kd.V (Kd.int .i64) 3 wr w.heap.size (fun k_ => ((P0_ k_ ∨ P1_ k_) ∨ w.heap.size ≤ k_) ∧ some k_ ≠ (v422 : Value).ownBlock) (.slice A0 l0.length c0) l0) := ⟨by rw [← hq_]; exact (pV HO_0.out)⟩; have n1_ : Aside0 (Kd.V (Kd.int .i64) 3 wr w.heap.size (fun k_ => ((P0_ k_ ∨ P1_ k_) ∨ w.heap.size ≤ k_) ∧ some k_ ≠ (v422 : Value).ownBlock) (.slice A1 l1.length c1) l1) := ⟨by rw [← hq_]; exact (pV HO_1.out)⟩; have n2_ : Aside0 (Kd.R (Kd.int .i64) 3 wr w.heap.size (fun k_ => (w.heap.size ≤ k_)) v422 x10_2) := ⟨by rw [← hq_]; exact (pR HO_10.out)⟩; have n3_ : Aside0 (Below w.heap.size w wr) := ⟨by rw [← hq_]; exact (qB HB)⟩; clear HO_0 HO_1 HO_10 HB hq_; have HO_0 := n0_; have HO_1 := n1_; have HO_10 := n2_; have HB := n3_; clear n0_ n1_ n2_ n3_))) | ((with_reducible refine gate_callee (f := 70) rfl ?_); refine goesL_ (some 46) rfl rfl Try.func70 (by kernel_rfl) rfl #[.slice A1 l1.length c1, .int .i64 x11_2] rfl pA ?_; (with_reducible refine (spread_size.calls _ _ l1 x11_2 t426 _ ?s1 ?s2 A18.out).mono ?_); (case s1 => exact pC (Kd.V_reads' HO_1.out).2.2); (case s2 => exact (Kd.V_reads' HO_1.out).2.1); rintro e w' ⟨rfl, ⟨nd, rfl⟩⟩; refine ⟨_, rfl, ?_⟩; (try (rw [drewN_self wr]; generalize hq_ : World.drewN wr _ = wr; have n0_ : Aside0 (Kd.V (Kd.int .i64) 3 wr w.heap.size (fun k_ => ((P0_ k_ ∨ P1_ k_) ∨ w.heap.size ≤ k_) ∧ some k_ ≠ (v422 : Value).ownBlock) (.slice A0 l0.length c0) l0) := ⟨by rw [← hq_]; exact (pV HO_0.out)⟩; have n1_ : Aside0 (Kd.V (Kd.int .i64) 3 wr w.heap.size (fun k_ => ((P0_ k_ ∨ P1_ k_) ∨ w.heap.size ≤ k_) ∧ some k_ ≠ (v422 : Value).ownBlock) (.slice A1 l1.length c1) l1) := ⟨by rw [← hq_]; exact (pV HO_1.out)⟩; have n2_ : Aside0 (Kd.R (Kd.int .i64) 3 wr w.heap.size (fun k_ => (w.heap.size ≤ k_)) v422 x10_2) := ⟨by rw [← hq_]; exact (pR HO_10.out)⟩; have n3_ : Aside0 (Below w.heap.size w wr) := ⟨by rw [← hq_]; exact (qB HB)⟩; clear HO_0 HO_1 HO_10 HB hq_; have HO_0 := n0_; have HO_1 := n1_; have HO_10 := n2_; have HB := n3_; clear n0_ n1_ n2_ n3_)); have p32 : 0 ≤ ((ji29) : Int) := of_decide_eq_true pD; have q32 : ((ji29) : Int) < ((x10_2.length : Int) : Int) := of_decide_eq_true pD; obtain ⟨go32, co32, eo32, gb32, gl32, cl32, HG32⟩ := Kd.R_form HO_10.out (by omega); (first | cases eo32 | (injection eo32 with ea_ en_ ec_; (first | subst ea_ | (injection ea_ with ea_; subst ea_)); subst ec_; clear en_)); have GB32 := aM gb32; have GG32 := aM HG32; clear gb32 gl32 HG32; obtain ⟨hx32_0, hf32_0⟩ := Kd.R_celln 0 HO_10.out ((ji29) : Int) p32 q32; replace p32 := eq_true p32; replace q32 := eq_true q32; obtain ⟨hy33_, hz33_⟩ := Kd.R_celln 0 HO_10.out ((ji29) : Int) (of_decide_eq_true pD) (of_decide_eq_true pD); have HP33 := Kd.R_putg HO_10.out ((ji29) : Int) ji28) | ((with_reducible refine gate_store (t := 3) (p := 65) rfl ?_); refine store_event (t := 3) (p := 65) (v := ?vo_w34) (w1 := (wr.setCell ⟨go32, ((ji29) : Int).toNat, none⟩ (.int .i64 ji28))) ?hg ?ho ?hn ?hr ?_; (case ho => rfl); (case hg => rfl); (case hn => rfl); (case hr => first | (go_simp; done) | (go_simp; rfl)); intro w34 hw; have hg : wr.grownBy w34 (some go32) := (by rw [hw]; exact HP33.2); have hp_ : Kd.R (Kd.int .i64) 3 w34 w.heap.size (fun k_ => (w.heap.size ≤ k_)) (.slice (some ⟨go32, 0, none⟩) x10_2.length co32) y428 := (by rw [hw, Ny428.out]; exact HP33.1); clear HP33; replace HO_0 := aM (Kd.V_afterv (v := (.slice (some ⟨go32, 0, none⟩) x10_2.length co32)) (v1 := (.slice (some ⟨go32, 0, none⟩) x10_2.length co32)) (ok := (fun k_ => ((P0_ k_ ∨ P1_ k_) ∨ w.heap.size ≤ k_))) (pV HO_0.out) hg (.inl rfl)); replace HO_1 := aM (Kd.V_afterv (v := (.slice (some ⟨go32, 0, none⟩) x10_2.length co32)) (v1 := (.slice (some ⟨go32, 0, none⟩) x10_2.length co32)) (ok := (fun k_ => ((P0_ k_ ∨ P1_ k_) ∨ w.heap.size ≤ k_))) (pV HO_1.out) hg (.inl rfl)); replace HO_10 := aM (hp_); replace HB := aM ((by rw [hw]; exact below_set (HB.out) GB32.out : Below w.heap.size w w34)); clear hg hw hp_))
      go_roundg k2
      case measure => have := HK1.out; have := HK2.out; omega
      case rel => exact ⟨(y428), (wrap64 (x11_2 + 1)), (pF), H', ⟨by have := HK1.out; have := HK2.out; omega⟩, ⟨pV HO_0.out⟩, ⟨pV HO_1.out⟩, ⟨pR HO_10.out⟩, ⟨qB HB⟩⟩
     rw [if_neg c27] at H
     have c27b0 : (t425 == 1) = false := beq_eq_false_iff_ne.mpr c27
     have c27b1 : (t425 != 1) = true := bne_iff_ne.mpr c27
     by_cases c35 : t426 = 1
     rotate_left
     ·rw [if_neg c35] at H
      have c35b0 : (t426 == 1) = false := beq_eq_false_iff_ne.mpr c35
      have c35b1 : (t426 != 1) = true := bne_iff_ne.mpr c35
      simp only [Option.some.injEq, Prod.mk.injEq] at H
      obtain ⟨rfl, rfl⟩ := H
      go_wp2_with (first | ((with_reducible refine gate_callee (f := 70) rfl ?_); refine goesL_ (some 43) rfl rfl Try.func70 (by kernel_rfl) rfl #[.slice A0 l0.length c0, .int .i64 x11_2] rfl pA ?_; (with_reducible refine (spread_size.calls _ _ l0 x11_2 t425 _ ?s1 ?s2 A17.out).mono ?_); (case s1 => exact pC (Kd.V_reads' HO_0.out).2.2); (case s2 => exact (Kd.V_reads' HO_0.out).2.1); rintro e w' ⟨rfl, ⟨nd, rfl⟩⟩; refine ⟨_, rfl, ?_⟩) | ((with_reducible refine gate_callee (f := 70) rfl ?_); refine goesL_ (some 46) rfl rfl Try.func70 (by kernel_rfl) rfl #[.slice A1 l1.length c1, .int .i64 x11_2] rfl pA ?_; (with_reducible refine (spread_size.calls _ _ l1 x11_2 t426 _ ?s1 ?s2 A18.out).mono ?_); (case s1 => exact pC (Kd.V_reads' HO_1.out).2.2); (case s2 => exact (Kd.V_reads' HO_1.out).2.1); rintro e w' ⟨rfl, ⟨nd, rfl⟩⟩; refine ⟨_, rfl, ?_⟩))
      go_ret2
      exact ⟨_, by first | rfl | (simp [errW_none, errW_some] <;> rfl) | (simp only [← hji11]; first | rfl | (simp [errW_none, errW_some] <;> rfl)) | (simp [*, errW_none, errW_some] <;> rfl), pN, qB HB⟩
     rw [if_pos c35] at H
     have c35b0 : (t426 == 1) = true := beq_iff_eq.mpr c35
     have c35b1 : (t426 != 1) = false := bne_eq_false_iff_eq.mpr c35
     clear c35
     obtain ⟨ji36, hji36⟩ : ∃ j_ : Int, (mx t425 t426) = j_ := ⟨_, rfl⟩
     replace H : (if 0 ≤ (wrap64 (ji11 - x11_2)) then (if (wrap64 (ji11 - x11_2)) < (x10_2.length : Int) then (spread_Two.l1 k2 l0 l1 ji11 (x10_2.set ((wrap64 (ji11 - x11_2)) : Int).toNat (ji36)) (wrap64 (x11_2 + 1))) else (none)) else (none)) = some (r1, r2) := by first | (rw [hji36] at H; exact H) | (simp only [hji36] at H ⊢; exact H)
     (try rw [hji36] at A17)
     (try rw [hji36] at A18)
     have hji36_ : (if t425 < t426 then t426 else t425) = ji36 := hji36
     obtain ⟨ji37, hji37⟩ : ∃ j_ : Int, (wrap64 (ji11 - x11_2)) = j_ := ⟨_, rfl⟩
     replace H : (if 0 ≤ (ji37) then (if (ji37) < (x10_2.length : Int) then (spread_Two.l1 k2 l0 l1 ji11 (x10_2.set ((ji37) : Int).toNat (ji36)) (wrap64 (x11_2 + 1))) else (none)) else (none)) = some (r1, r2) := by first | (rw [hji37] at H; exact H) | (simp only [hji37] at H ⊢; exact H)
     (try rw [hji37] at A17)
     (try rw [hji37] at A18)
     have hji37w : (IntKind.i64.wrap (ji11 - x11_2)) = ji37 := (i64_w _).trans hji37
     by_cases c38 : 0 ≤ (ji37)
     rotate_left
     ·rw [if_neg c38] at H
      exact absurd H (by simp)
     rw [if_pos c38] at H
     have c38b0 : decide (0 ≤ (ji37)) = true := decide_eq_true c38
     clear c38
     by_cases c39 : (ji37) < (x10_2.length : Int)
     rotate_left
     ·rw [if_neg c39] at H
      exact absurd H (by simp)
     rw [if_pos c39] at H
     have c39b0 : decide ((ji37) < (x10_2.length : Int)) = true := decide_eq_true c39
     clear c39
     obtain ⟨y429, hy429⟩ : ∃ y_ : List Int, y_ = (x10_2.set ((ji37) : Int).toNat (ji36)) := ⟨_, rfl⟩
     replace H : (spread_Two.l1 k2 l0 l1 ji11 y429 (wrap64 (x11_2 + 1))) = some (r1, r2) := pH hy429 H
     have Ny429 := aM hy429
     clear hy429
     have H' := aM H
     clear H
     go_wp2_with (first | ((with_reducible refine gate_callee (f := 70) rfl ?_); refine goesL_ (some 43) rfl rfl Try.func70 (by kernel_rfl) rfl #[.slice A0 l0.length c0, .int .i64 x11_2] rfl pA ?_; (with_reducible refine (spread_size.calls _ _ l0 x11_2 t425 _ ?s1 ?s2 A17.out).mono ?_); (case s1 => exact pC (Kd.V_reads' HO_0.out).2.2); (case s2 => exact (Kd.V_reads' HO_0.out).2.1); rintro e w' ⟨rfl, ⟨nd, rfl⟩⟩; refine ⟨_, rfl, ?_⟩; (try (rw [drewN_self wr]; generalize hq_ : World.drewN wr _ = wr; have n0_ : Aside0 (Kd.V (Kd.int .i64) 3 wr w.heap.size (fun k_ => ((P0_ k_ ∨ P1_ k_) ∨ w.heap.size ≤ k_) ∧ some k_ ≠ (v422 : Value).ownBlock) (.slice A0 l0.length c0) l0) := ⟨by rw [← hq_]; exact (pV HO_0.out)⟩; have n1_ : Aside0 (Kd.V (Kd.int .i64) 3 wr w.heap.size (fun k_ => ((P0_ k_ ∨ P1_ k_) ∨ w.heap.size ≤ k_) ∧ some k_ ≠ (v422 : Value).ownBlock) (.slice A1 l1.length c1) l1) := ⟨by rw [← hq_]; exact (pV HO_1.out)⟩; have n2_ : Aside0 (Kd.R (Kd.int .i64) 3 wr w.heap.size (fun k_ => (w.heap.size ≤ k_)) v422 x10_2) := ⟨by rw [← hq_]; exact (pR HO_10.out)⟩; have n3_ : Aside0 (Below w.heap.size w wr) := ⟨by rw [← hq_]; exact (qB HB)⟩; clear HO_0 HO_1 HO_10 HB hq_; have HO_0 := n0_; have HO_1 := n1_; have HO_10 := n2_; have HB := n3_; clear n0_ n1_ n2_ n3_))) | ((with_reducible refine gate_callee (f := 70) rfl ?_); refine goesL_ (some 46) rfl rfl Try.func70 (by kernel_rfl) rfl #[.slice A1 l1.length c1, .int .i64 x11_2] rfl pA ?_; (with_reducible refine (spread_size.calls _ _ l1 x11_2 t426 _ ?s1 ?s2 A18.out).mono ?_); (case s1 => exact pC (Kd.V_reads' HO_1.out).2.2); (case s2 => exact (Kd.V_reads' HO_1.out).2.1); rintro e w' ⟨rfl, ⟨nd, rfl⟩⟩; refine ⟨_, rfl, ?_⟩; (try (rw [drewN_self wr]; generalize hq_ : World.drewN wr _ = wr; have n0_ : Aside0 (Kd.V (Kd.int .i64) 3 wr w.heap.size (fun k_ => ((P0_ k_ ∨ P1_ k_) ∨ w.heap.size ≤ k_) ∧ some k_ ≠ (v422 : Value).ownBlock) (.slice A0 l0.length c0) l0) := ⟨by rw [← hq_]; exact (pV HO_0.out)⟩; have n1_ : Aside0 (Kd.V (Kd.int .i64) 3 wr w.heap.size (fun k_ => ((P0_ k_ ∨ P1_ k_) ∨ w.heap.size ≤ k_) ∧ some k_ ≠ (v422 : Value).ownBlock) (.slice A1 l1.length c1) l1) := ⟨by rw [← hq_]; exact (pV HO_1.out)⟩; have n2_ : Aside0 (Kd.R (Kd.int .i64) 3 wr w.heap.size (fun k_ => (w.heap.size ≤ k_)) v422 x10_2) := ⟨by rw [← hq_]; exact (pR HO_10.out)⟩; have n3_ : Aside0 (Below w.heap.size w wr) := ⟨by rw [← hq_]; exact (qB HB)⟩; clear HO_0 HO_1 HO_10 HB hq_; have HO_0 := n0_; have HO_1 := n1_; have HO_10 := n2_; have HB := n3_; clear n0_ n1_ n2_ n3_)); have p40 : 0 ≤ ((ji37) : Int) := of_decide_eq_true pD; have q40 : ((ji37) : Int) < ((x10_2.length : Int) : Int) := of_decide_eq_true pD; obtain ⟨go40, co40, eo40, gb40, gl40, cl40, HG40⟩ := Kd.R_form HO_10.out (by omega); (first | cases eo40 | (injection eo40 with ea_ en_ ec_; (first | subst ea_ | (injection ea_ with ea_; subst ea_)); subst ec_; clear en_)); have GB40 := aM gb40; have GG40 := aM HG40; clear gb40 gl40 HG40; obtain ⟨hx40_0, hf40_0⟩ := Kd.R_celln 0 HO_10.out ((ji37) : Int) p40 q40; replace p40 := eq_true p40; replace q40 := eq_true q40; obtain ⟨hy41_, hz41_⟩ := Kd.R_celln 0 HO_10.out ((ji37) : Int) (of_decide_eq_true pD) (of_decide_eq_true pD); have HP41 := Kd.R_putg HO_10.out ((ji37) : Int) ji36) | ((with_reducible refine gate_store (t := 3) (p := 65) rfl ?_); refine store_event (t := 3) (p := 65) (v := ?vo_w42) (w1 := (wr.setCell ⟨go40, ((ji37) : Int).toNat, none⟩ (.int .i64 ji36))) ?hg ?ho ?hn ?hr ?_; (case ho => rfl); (case hg => rfl); (case hn => rfl); (case hr => first | (go_simp; done) | (go_simp; rfl)); intro w42 hw; have hg : wr.grownBy w42 (some go40) := (by rw [hw]; exact HP41.2); have hp_ : Kd.R (Kd.int .i64) 3 w42 w.heap.size (fun k_ => (w.heap.size ≤ k_)) (.slice (some ⟨go40, 0, none⟩) x10_2.length co40) y429 := (by rw [hw, Ny429.out]; exact HP41.1); clear HP41; replace HO_0 := aM (Kd.V_afterv (v := (.slice (some ⟨go40, 0, none⟩) x10_2.length co40)) (v1 := (.slice (some ⟨go40, 0, none⟩) x10_2.length co40)) (ok := (fun k_ => ((P0_ k_ ∨ P1_ k_) ∨ w.heap.size ≤ k_))) (pV HO_0.out) hg (.inl rfl)); replace HO_1 := aM (Kd.V_afterv (v := (.slice (some ⟨go40, 0, none⟩) x10_2.length co40)) (v1 := (.slice (some ⟨go40, 0, none⟩) x10_2.length co40)) (ok := (fun k_ => ((P0_ k_ ∨ P1_ k_) ∨ w.heap.size ≤ k_))) (pV HO_1.out) hg (.inl rfl)); replace HO_10 := aM (hp_); replace HB := aM ((by rw [hw]; exact below_set (HB.out) GB40.out : Below w.heap.size w w42)); clear hg hw hp_))
     go_roundg k2
     case measure => have := HK1.out; have := HK2.out; omega
     case rel => exact ⟨(y429), (wrap64 (x11_2 + 1)), (pF), H', ⟨by have := HK1.out; have := HK2.out; omega⟩, ⟨pV HO_0.out⟩, ⟨pV HO_1.out⟩, ⟨pR HO_10.out⟩, ⟨qB HB⟩⟩
def spread_Fits.f (k : Nat) (l0 : List Int) (l1 : List Int) : Option (Bool) := (spread_Two.f k l0 l1).bind fun bt433 => (if bt433.2 = 0 then ((shape_Same.f k bt433.1 l1).bind fun t437 => (some t437)) else (some false))
set_option maxHeartbeats 8000000 in
set_option maxRecDepth 100000 in
theorem spread_Fits.calls (k : Nat) (A0 : Option Addr) (c0 : Nat) (l0 : List Int) (A1 : Option Addr) (c1 : Nat) (l1 : List Int) (r : Bool) (w : World) (hr0 : Kd.C (Kd.int .i64) w A0 l0.length l0) (hc0 : l0.length ≤ c0) (hr1 : Kd.C (Kd.int .i64) w A1 l1.length l1) (hc1 : l1.length ≤ c1) (h : spread_Fits.f k l0 l1 = some r) :
  Calls Try.prog 56 #[.slice A0 l0.length c0, .slice A1 l1.length c1] w fun e w' => e = .returned (.bool r) ∧ Below w.heap.size w w' := by
 have HR0 := aM hr0
 have HC0 := aM hc0
 clear hr0 hc0
 have HR1 := aM hr1
 have HC1 := aM hc1
 clear hr1 hc1
 have HB := aM (Below.refl w.heap.size w)
 have H : ((spread_Two.f k l0 l1).bind fun bt433 => (if bt433.2 = 0 then ((shape_Same.f k bt433.1 l1).bind fun t437 => (some t437)) else (some false))) = some r := h
 clear h
 replace H := Option.bind_eq_some_iff.mp H
 obtain ⟨⟨t433, t436⟩, A30, H⟩ := H
 try dsimp only at H
 have A3 := aM A30
 clear A30
 by_cases c4 : t436 = 0
 rotate_left
 ·rw [if_neg c4] at H
  have c4b0 : (t436 == 0) = false := beq_eq_false_iff_ne.mpr c4
  have c4b1 : (t436 != 0) = true := bne_iff_ne.mpr c4
  obtain rfl := Option.some.inj H
  go_enter Try.func56, Try.ntmps56
  go_wp2_with (first | ((with_reducible refine gate_callee (f := 63) rfl ?_); refine goesL_ (some 10) rfl rfl Try.func63 (by kernel_rfl) rfl #[.slice A0 l0.length c0, .slice A1 l1.length c1] rfl pA ?_; (with_reducible refine (spread_Two.calls k (fun k_ => k_ < w.heap.size) _ _ l0 (fun k_ => k_ < w.heap.size) _ _ l1 t433 t436 _ ?s1 ?s2 A3.out).mono ?_); (case s1 => exact Kd.V_mk HC0.out (Kd.F_below (Kd.C_F (Kd.heap_int .i64) HR0.out) (qB HB))); (case s2 => exact Kd.V_mk HC1.out (Kd.F_below (Kd.C_F (Kd.heap_int .i64) HR1.out) (qB HB))); rintro e w8 ⟨v434, rfl, ho0, hb⟩; refine ⟨_, rfl, ?_⟩; have HO435 := aM (Kd.R_lower (Kd.R_mono (ok' := fun k_ => True) ho0 (fun _ hk_ => trivial)) (below_size (qB HB))); replace HB := bS (qB HB) hb; (try clear hb); (try clear hk); (try clear hi); (try clear ho0)))
  go_ret
  exact ⟨pE, qB HB⟩
 rw [if_pos c4] at H
 have c4b0 : (t436 == 0) = true := beq_iff_eq.mpr c4
 have c4b1 : (t436 != 0) = false := bne_eq_false_iff_eq.mpr c4
 clear c4
 replace H := Option.bind_eq_some_iff.mp H
 obtain ⟨t437, A50, H⟩ := H
 try dsimp only at H
 have A5 := aM A50
 clear A50
 obtain rfl := Option.some.inj H
 go_enter Try.func56, Try.ntmps56
 go_wp2_with (first | ((with_reducible refine gate_callee (f := 63) rfl ?_); refine goesL_ (some 10) rfl rfl Try.func63 (by kernel_rfl) rfl #[.slice A0 l0.length c0, .slice A1 l1.length c1] rfl pA ?_; (with_reducible refine (spread_Two.calls k (fun k_ => k_ < w.heap.size) _ _ l0 (fun k_ => k_ < w.heap.size) _ _ l1 t433 t436 _ ?s1 ?s2 A3.out).mono ?_); (case s1 => exact Kd.V_mk HC0.out (Kd.F_below (Kd.C_F (Kd.heap_int .i64) HR0.out) (qB HB))); (case s2 => exact Kd.V_mk HC1.out (Kd.F_below (Kd.C_F (Kd.heap_int .i64) HR1.out) (qB HB))); rintro e w6 ⟨v434, rfl, ho0, hb⟩; refine ⟨_, rfl, ?_⟩; have HO435 := aM (Kd.R_lower (Kd.R_mono (ok' := fun k_ => True) ho0 (fun _ hk_ => trivial)) (below_size (qB HB))); replace HB := bS (qB HB) hb; (try clear hb); (try clear hk); (try clear hi); (try clear ho0); obtain ⟨Ao7, co7, eo7⟩ := Kd.R_slice HO435.out; subst eo7) | (go_at_call 64; (with_reducible refine (shape_Same.calls k _ _ t433 _ _ l1 t437 _ ?s1 ?s2 ?s3 ?s4 A5.out).mono ?_); (case s1 => exact sR HO435); (case s2 => exact sL HO435); (case s3 => exact sC HR1 HB); (case s4 => exact HC1.out); rintro e w' ⟨rfl, ⟨nd, rfl⟩⟩))
 go_ret
 exact ⟨pE, qB HB⟩
def view_Expand.l0 : Nat → Int → List Int → Int → Int → Int → List Int → List Int → Int → List Int → List Int → Option (Int × List Int × List Int × Int)
 | 0, _, _, _, _, _, _, _, _, _, _ => none
 | k + 1, x8, x42, x43, x44, x439000, x439001, x439002, x450000, x450001, x450002 => if x44 < x43 then (if 0 ≤ x44 then (if x44 < (x42.length : Int) then (if (rd x42 x44) > 1 then (if x44 < (x439002.length : Int) then (if 0 ≤ (wrap64 (x8 + x44)) then (if (wrap64 (x8 + x44)) < (x450002.length : Int) then (view_Expand.l0 k x8 x42 x43 (wrap64 (x44 + 1)) x439000 x439001 x439002 x450000 x450001 (x450002.set ((wrap64 (x8 + x44)) : Int).toNat (rd x439002 x44))) else (none)) else (none)) else (none)) else (view_Expand.l0 k x8 x42 x43 (wrap64 (x44 + 1)) x439000 x439001 x439002 x450000 x450001 x450002)) else (none)) else (none)) else (some (x450000, x450001, x450002, 0))
def view_Expand.f (k : Nat) (a0_0 : Int) (l0_1 : List Int) (l0_2 : List Int) (l1 : List Int) : Option (Int × List Int × List Int × Int) := (view_right.f k a0_0 l0_1 l0_2).bind fun t440 => (if t440 = true then ((shape_Check.f l1).bind fun t441 => (if t441 = 0 then ((spread_Fits.f k l0_1 l1).bind fun t442 => (if t442 = true then ((slices_Clone_int_int.f l1).bind fun t443 => (if 0 ≤ (l1.length : Int) then (if ((l1.length : Int) : Int).toNat ≤ 35184372088832 then (view_Expand.l0 k (wrap64 ((l1.length : Int) - (l0_1.length : Int))) l0_1 (l0_1.length : Int) 0 a0_0 l0_1 l0_2 a0_0 t443 (List.replicate ((l1.length : Int) : Int).toNat 0)) else (none)) else (none))) else (some (0, ([] : List Int), ([] : List Int), 8)))) else (some (0, ([] : List Int), ([] : List Int), t441)))) else (some (0, ([] : List Int), ([] : List Int), 1)))
def view_Expand.T8 : Bool × List (List Nat × List Nat) := (true, [([], []), ([0], [0]), ([], []), ([2], [2]), ([], []), ([4], [4]), ([5, 5], [5]), ([1, 3, 6], [1, 3, 6]), ([], []), ([8, 7, 3, 0, 1, 2, 3, 4, 5, 6, 7, 8], [7, 8])])
def view_Expand.B8 : List Nat := [0, 1, 0, 4, 0, 16, 48, 127, 0, 511]
theorem view_Expand.tab8 : rtab .any (opsOf Try.f36 8) = view_Expand.T8 := by kernel_rfl
theorem view_Expand.bits8 : waitsOk view_Expand.T8.2 view_Expand.B8 = true := by kernel_rfl
def view_Expand.T14 : Bool × List (List Nat × List Nat) := (true, [([], []), ([0], [0]), ([], []), ([], []), ([2, 3], [2, 3]), ([], []), ([5], [5]), ([], []), ([6, 7], [6, 7]), ([8], [8]), ([1, 4, 0, 1, 2, 3, 4, 5, 6, 7, 8, 9], [1, 4]), ([10, 9, 0, 1, 2, 3, 4, 5, 6, 7, 8, 9], [9, 10])])
def view_Expand.B14 : List Nat := [0, 1, 0, 0, 12, 0, 32, 0, 224, 480, 1023, 2047]
theorem view_Expand.tab14 : rtab .any (opsOf Try.f36 14) = view_Expand.T14 := by kernel_rfl
theorem view_Expand.bits14 : waitsOk view_Expand.T14.2 view_Expand.B14 = true := by kernel_rfl
set_option maxHeartbeats 8000000 in
set_option maxRecDepth 100000 in
theorem view_Expand.calls (k : Nat) (a0_0 : Int) (A0_1 : Option Addr) (c0_1 : Nat) (l0_1 : List Int) (A0_2 : Option Addr) (c0_2 : Nat) (l0_2 : List Int) (A1 : Option Addr) (c1 : Nat) (l1 : List Int) (r1 : Int) (r2 : List Int) (r3 : List Int) (r4 : Int) (w : World) (hr0_1 : Kd.C (Kd.int .i64) w A0_1 l0_1.length l0_1) (hc0_1 : l0_1.length ≤ c0_1) (hr0_2 : Kd.C (Kd.int .i64) w A0_2 l0_2.length l0_2) (hc0_2 : l0_2.length ≤ c0_2) (hr1 : Kd.C (Kd.int .i64) w A1 l1.length l1) (hc1 : l1.length ≤ c1) (h : view_Expand.f k a0_0 l0_1 l0_2 l1 = some (r1, r2, r3, r4)) :
  Calls Try.prog 36 #[.agg #[.int .i64 a0_0, .slice A0_1 l0_1.length c0_1, .slice A0_2 l0_2.length c0_2], .slice A1 l1.length c1] w fun e w' => ∃ v1_ v2_ : Value, e = .returned (.tuple #[.agg #[.int .i64 r1, v1_, v2_], .int .i64 r4]) ∧ Kd.R (Kd.int .i64) 3 w' w.heap.size (fun k_ => some k_ ≠ (v2_ : Value).ownBlock) v1_ r2 ∧ Kd.R (Kd.int .i64) 3 w' w.heap.size (fun k_ => some k_ ≠ (v1_ : Value).ownBlock) v2_ r3 ∧ Below w.heap.size w w' := by
 have hu24 := Try.underlying24
 have HR0_1 := aM hr0_1
 have HC0_1 := aM hc0_1
 clear hr0_1 hc0_1
 have HR0_2 := aM hr0_2
 have HC0_2 := aM hc0_2
 clear hr0_2 hc0_2
 have HR1 := aM hr1
 have HC1 := aM hc1
 clear hr1 hc1
 have HB := aM (Below.refl w.heap.size w)
 have H : ((view_right.f k a0_0 l0_1 l0_2).bind fun t440 => (if t440 = true then ((shape_Check.f l1).bind fun t441 => (if t441 = 0 then ((spread_Fits.f k l0_1 l1).bind fun t442 => (if t442 = true then ((slices_Clone_int_int.f l1).bind fun t443 => (if 0 ≤ (l1.length : Int) then (if ((l1.length : Int) : Int).toNat ≤ 35184372088832 then (view_Expand.l0 k (wrap64 ((l1.length : Int) - (l0_1.length : Int))) l0_1 (l0_1.length : Int) 0 a0_0 l0_1 l0_2 a0_0 t443 (List.replicate ((l1.length : Int) : Int).toNat 0)) else (none)) else (none))) else (some (0, ([] : List Int), ([] : List Int), 8)))) else (some (0, ([] : List Int), ([] : List Int), t441)))) else (some (0, ([] : List Int), ([] : List Int), 1)))) = some (r1, r2, r3, r4) := h
 clear h
 replace H := Option.bind_eq_some_iff.mp H
 obtain ⟨t440, A30, H⟩ := H
 try dsimp only at H
 have A3 := aM A30
 clear A30
 by_cases c4 : t440 = true
 rotate_left
 ·replace c4 := Bool.eq_false_iff.mpr c4
  subst c4
  rw [if_neg (show ¬ (false = true) by decide)] at H
  simp only [Option.some.injEq, Prod.mk.injEq] at H
  obtain ⟨rfl, rfl, rfl, rfl⟩ := H
  go_enter Try.func36, Try.ntmps36
  go_wp2_with (first | ((with_reducible refine gate_dst (N := 2) rfl ?_); refine box_event ?hg (N := 2) ?hd (cs := #[.int .i64 a0_0, .slice A0_1 l0_1.length c0_1, .slice A0_2 l0_2.length c0_2]) (t := 24) ?hr ?_; (case hd => rfl); (case hg => rfl); (case hr => first | (go_simp; done) | (go_simp; rfl)); intro gb438 hg w66 hbox hb; have BK438 := aM (hbox); have GW438 := gE (w := w) hg (qB HB); have GE438 := GW438; replace HB := bS (qB HB) hb; clear hb hbox hg) | ((with_reducible refine gate_dst (N := 4) rfl ?_); refine box_event ?hg (N := 4) ?hd (cs := #[.int .i64 0, .slice none 0 0, .slice none 0 0]) (t := 24) ?hr ?_; (case hd => rfl); (case hg => rfl); (case hr => first | (go_simp; done) | (go_simp; rfl)); intro gb439 hg w67 hbox hb; have BK439 := aM (hbox); have GW439 := gE (w := w) hg (qB1 HB GE438); have GE439 := GW439; replace HB := bS (qB1 HB GE438) hb; have NB438_439 := nL hg BK438; have NB439_438 := nG hg BK438; replace BK438 := bK BK438 hb; clear hb hbox hg; have hnb68 := NB438_439.out; have hnc68 := NB439_438.out; obtain ⟨hcz69_0, hcz69_1, hcz69_2, hfz69_0, hfz69_1, hfz69_2⟩ := blk3 BK438.out) | ((with_reducible refine gate_callee (f := 39) rfl ?_); refine goesL_ (some 12) rfl rfl Try.func39 (by kernel_rfl) rfl #[.agg #[.int .i64 a0_0, .slice A0_1 l0_1.length c0_1, .slice A0_2 l0_2.length c0_2]] rfl pA ?_; (with_reducible refine (view_right.calls k a0_0 _ _ l0_1 _ _ l0_2 false _ ?s1 ?s2 ?s3 ?s4 A3.out).mono ?_); (case s1 => exact sC HR0_1 HB); (case s2 => exact HC0_1.out); (case s3 => exact sC HR0_2 HB); (case s4 => exact HC0_2.out); rintro e w70 ⟨rfl, hb⟩; refine ⟨_, rfl, ?_⟩; replace BK438 := bK BK438 hb; replace BK439 := bK BK439 hb; replace HB := bS (qB2 HB GE438 GE439) hb; (try clear hb); (try clear hk); (try clear hi); obtain ⟨hcz71_0, hcz71_1, hcz71_2, hfz71_0, hfz71_1, hfz71_2⟩ := blk3 BK439.out))
  refine bodyPost_ret (results_ct rfl _ _ gb439 24 #[.int .i64 0, .slice none 0 0, .slice none 0 0] (0, 0) _ rfl (by exact P3 BK439) Try.underlying24 rfl (by kernel_rfl)) rfl ?_
  exact ⟨_, _, pE, pN, pN, qB2 HB GE438 GE439⟩
 subst c4
 rw [if_pos rfl] at H
 replace H := Option.bind_eq_some_iff.mp H
 obtain ⟨t441, A50, H⟩ := H
 try dsimp only at H
 have A5 := aM A50
 clear A50
 by_cases c6 : t441 = 0
 rotate_left
 ·rw [if_neg c6] at H
  have c6b0 : (t441 == 0) = false := beq_eq_false_iff_ne.mpr c6
  have c6b1 : (t441 != 0) = true := bne_iff_ne.mpr c6
  simp only [Option.some.injEq, Prod.mk.injEq] at H
  obtain ⟨rfl, rfl, rfl, rfl⟩ := H
  go_enter Try.func36, Try.ntmps36
  go_wp2_with (first | ((with_reducible refine gate_dst (N := 2) rfl ?_); refine box_event ?hg (N := 2) ?hd (cs := #[.int .i64 a0_0, .slice A0_1 l0_1.length c0_1, .slice A0_2 l0_2.length c0_2]) (t := 24) ?hr ?_; (case hd => rfl); (case hg => rfl); (case hr => first | (go_simp; done) | (go_simp; rfl)); intro gb438 hg w60 hbox hb; have BK438 := aM (hbox); have GW438 := gE (w := w) hg (qB HB); have GE438 := GW438; replace HB := bS (qB HB) hb; clear hb hbox hg) | ((with_reducible refine gate_dst (N := 4) rfl ?_); refine box_event ?hg (N := 4) ?hd (cs := #[.int .i64 0, .slice none 0 0, .slice none 0 0]) (t := 24) ?hr ?_; (case hd => rfl); (case hg => rfl); (case hr => first | (go_simp; done) | (go_simp; rfl)); intro gb439 hg w61 hbox hb; have BK439 := aM (hbox); have GW439 := gE (w := w) hg (qB1 HB GE438); have GE439 := GW439; replace HB := bS (qB1 HB GE438) hb; have NB438_439 := nL hg BK438; have NB439_438 := nG hg BK438; replace BK438 := bK BK438 hb; clear hb hbox hg; have hnb62 := NB438_439.out; have hnc62 := NB439_438.out; obtain ⟨hcz63_0, hcz63_1, hcz63_2, hfz63_0, hfz63_1, hfz63_2⟩ := blk3 BK438.out) | ((with_reducible refine gate_callee (f := 39) rfl ?_); refine goesL_ (some 12) rfl rfl Try.func39 (by kernel_rfl) rfl #[.agg #[.int .i64 a0_0, .slice A0_1 l0_1.length c0_1, .slice A0_2 l0_2.length c0_2]] rfl pA ?_; (with_reducible refine (view_right.calls k a0_0 _ _ l0_1 _ _ l0_2 true _ ?s1 ?s2 ?s3 ?s4 A3.out).mono ?_); (case s1 => exact sC HR0_1 HB); (case s2 => exact HC0_1.out); (case s3 => exact sC HR0_2 HB); (case s4 => exact HC0_2.out); rintro e w64 ⟨rfl, hb⟩; refine ⟨_, rfl, ?_⟩; replace BK438 := bK BK438 hb; replace BK439 := bK BK439 hb; replace HB := bS (qB2 HB GE438 GE439) hb; (try clear hb); (try clear hk); (try clear hi)) | ((with_reducible refine gate_callee (f := 41) rfl ?_); refine goesL_ (some 16) rfl rfl Try.func41 (by kernel_rfl) rfl #[.slice A1 l1.length c1] rfl pA ?_; (with_reducible refine (shape_Check.calls _ _ l1 t441 _ ?s1 ?s2 A5.out).mono ?_); (case s1 => exact sC HR1 HB); (case s2 => exact HC1.out); rintro e w' ⟨rfl, ⟨nd, rfl⟩⟩; refine ⟨_, rfl, ?_⟩; (try (rw [drewN_self w64]; generalize hq_ : World.drewN w64 _ = w64; have n0_ : Aside0 (w64.heap[gb438]? = some (.cells #[.int .i64 a0_0, .slice A0_1 l0_1.length c0_1, .slice A0_2 l0_2.length c0_2] 24 (0, 0))) := ⟨by rw [← hq_]; exact (pK BK438.out)⟩; have n1_ : Aside0 (w64.heap[gb439]? = some (.cells #[.int .i64 0, .slice none 0 0, .slice none 0 0] 24 (0, 0))) := ⟨by rw [← hq_]; exact (pK BK439.out)⟩; have n2_ : Aside0 (Below w.heap.size w w64) := ⟨by rw [← hq_]; exact (qB2 HB GE438 GE439)⟩; clear BK438 BK439 HB hq_; have BK438 := n0_; have BK439 := n1_; have HB := n2_; clear n0_ n1_ n2_)); obtain ⟨hcz65_0, hcz65_1, hcz65_2, hfz65_0, hfz65_1, hfz65_2⟩ := blk3 BK439.out))
  refine bodyPost_ret (results_ct rfl _ _ gb439 24 #[.int .i64 0, .slice none 0 0, .slice none 0 0] (0, 0) _ rfl (by exact P3 BK439) Try.underlying24 rfl (by kernel_rfl)) rfl ?_
  exact ⟨_, _, pE, pN, pN, qB2 HB GE438 GE439⟩
 rw [if_pos c6] at H
 have c6b0 : (t441 == 0) = true := beq_iff_eq.mpr c6
 have c6b1 : (t441 != 0) = false := bne_eq_false_iff_eq.mpr c6
 clear c6
 replace H := Option.bind_eq_some_iff.mp H
 obtain ⟨t442, A70, H⟩ := H
 try dsimp only at H
 have A7 := aM A70
 clear A70
 by_cases c8 : t442 = true
 rotate_left
 ·replace c8 := Bool.eq_false_iff.mpr c8
  subst c8
  rw [if_neg (show ¬ (false = true) by decide)] at H
  simp only [Option.some.injEq, Prod.mk.injEq] at H
  obtain ⟨rfl, rfl, rfl, rfl⟩ := H
  go_enter Try.func36, Try.ntmps36
  go_wp2_with (first | ((with_reducible refine gate_dst (N := 2) rfl ?_); refine box_event ?hg (N := 2) ?hd (cs := #[.int .i64 a0_0, .slice A0_1 l0_1.length c0_1, .slice A0_2 l0_2.length c0_2]) (t := 24) ?hr ?_; (case hd => rfl); (case hg => rfl); (case hr => first | (go_simp; done) | (go_simp; rfl)); intro gb438 hg w52 hbox hb; have BK438 := aM (hbox); have GW438 := gE (w := w) hg (qB HB); have GE438 := GW438; replace HB := bS (qB HB) hb; clear hb hbox hg) | ((with_reducible refine gate_dst (N := 4) rfl ?_); refine box_event ?hg (N := 4) ?hd (cs := #[.int .i64 0, .slice none 0 0, .slice none 0 0]) (t := 24) ?hr ?_; (case hd => rfl); (case hg => rfl); (case hr => first | (go_simp; done) | (go_simp; rfl)); intro gb439 hg w53 hbox hb; have BK439 := aM (hbox); have GW439 := gE (w := w) hg (qB1 HB GE438); have GE439 := GW439; replace HB := bS (qB1 HB GE438) hb; have NB438_439 := nL hg BK438; have NB439_438 := nG hg BK438; replace BK438 := bK BK438 hb; clear hb hbox hg; have hnb54 := NB438_439.out; have hnc54 := NB439_438.out; obtain ⟨hcz55_0, hcz55_1, hcz55_2, hfz55_0, hfz55_1, hfz55_2⟩ := blk3 BK438.out) | ((with_reducible refine gate_callee (f := 39) rfl ?_); refine goesL_ (some 12) rfl rfl Try.func39 (by kernel_rfl) rfl #[.agg #[.int .i64 a0_0, .slice A0_1 l0_1.length c0_1, .slice A0_2 l0_2.length c0_2]] rfl pA ?_; (with_reducible refine (view_right.calls k a0_0 _ _ l0_1 _ _ l0_2 true _ ?s1 ?s2 ?s3 ?s4 A3.out).mono ?_); (case s1 => exact sC HR0_1 HB); (case s2 => exact HC0_1.out); (case s3 => exact sC HR0_2 HB); (case s4 => exact HC0_2.out); rintro e w56 ⟨rfl, hb⟩; refine ⟨_, rfl, ?_⟩; replace BK438 := bK BK438 hb; replace BK439 := bK BK439 hb; replace HB := bS (qB2 HB GE438 GE439) hb; (try clear hb); (try clear hk); (try clear hi)) | ((with_reducible refine gate_callee (f := 41) rfl ?_); refine goesL_ (some 16) rfl rfl Try.func41 (by kernel_rfl) rfl #[.slice A1 l1.length c1] rfl pA ?_; (with_reducible refine (shape_Check.calls _ _ l1 t441 _ ?s1 ?s2 A5.out).mono ?_); (case s1 => exact sC HR1 HB); (case s2 => exact HC1.out); rintro e w' ⟨rfl, ⟨nd, rfl⟩⟩; refine ⟨_, rfl, ?_⟩; (try (rw [drewN_self w56]; generalize hq_ : World.drewN w56 _ = w56; have n0_ : Aside0 (w56.heap[gb438]? = some (.cells #[.int .i64 a0_0, .slice A0_1 l0_1.length c0_1, .slice A0_2 l0_2.length c0_2] 24 (0, 0))) := ⟨by rw [← hq_]; exact (pK BK438.out)⟩; have n1_ : Aside0 (w56.heap[gb439]? = some (.cells #[.int .i64 0, .slice none 0 0, .slice none 0 0] 24 (0, 0))) := ⟨by rw [← hq_]; exact (pK BK439.out)⟩; have n2_ : Aside0 (Below w.heap.size w w56) := ⟨by rw [← hq_]; exact (qB2 HB GE438 GE439)⟩; clear BK438 BK439 HB hq_; have BK438 := n0_; have BK439 := n1_; have HB := n2_; clear n0_ n1_ n2_)); obtain ⟨hcz57_0, hcz57_1, hcz57_2, hfz57_0, hfz57_1, hfz57_2⟩ := blk3 BK438.out) | ((with_reducible refine gate_callee (f := 56) rfl ?_); refine goesL_ (some 24) rfl rfl Try.func56 (by kernel_rfl) rfl #[.slice A0_1 l0_1.length c0_1, .slice A1 l1.length c1] rfl pA ?_; (with_reducible refine (spread_Fits.calls k _ _ l0_1 _ _ l1 false _ ?s1 ?s2 ?s3 ?s4 A7.out).mono ?_); (case s1 => exact sC HR0_1 HB); (case s2 => exact HC0_1.out); (case s3 => exact sC HR1 HB); (case s4 => exact HC1.out); rintro e w58 ⟨rfl, hb⟩; refine ⟨_, rfl, ?_⟩; replace BK438 := bK BK438 hb; replace BK439 := bK BK439 hb; replace HB := bS (qB2 HB GE438 GE439) hb; (try clear hb); (try clear hk); (try clear hi); obtain ⟨hcz59_0, hcz59_1, hcz59_2, hfz59_0, hfz59_1, hfz59_2⟩ := blk3 BK439.out))
  refine bodyPost_ret (results_ct rfl _ _ gb439 24 #[.int .i64 0, .slice none 0 0, .slice none 0 0] (0, 0) _ rfl (by exact P3 BK439) Try.underlying24 rfl (by kernel_rfl)) rfl ?_
  exact ⟨_, _, pE, pN, pN, qB2 HB GE438 GE439⟩
 subst c8
 rw [if_pos rfl] at H
 replace H := Option.bind_eq_some_iff.mp H
 obtain ⟨t443, A90, H⟩ := H
 try dsimp only at H
 have A9 := aM A90
 clear A90
 by_cases c10 : 0 ≤ (l1.length : Int)
 rotate_left
 ·rw [if_neg c10] at H
  exact absurd H (by simp)
 rw [if_pos c10] at H
 have c10b0 := eq_true c10
 have c10b1 : decide (0 ≤ (l1.length : Int)) = true := decide_eq_true c10
 clear c10
 by_cases c11 : ((l1.length : Int) : Int).toNat ≤ 35184372088832
 rotate_left
 ·rw [if_neg c11] at H
  exact absurd H (by simp)
 rw [if_pos c11] at H
 have c11b0 := eq_true c11
 have c11b1 : decide (((l1.length : Int) : Int).toNat ≤ 35184372088832) = true := decide_eq_true c11
 clear c11
 obtain ⟨y446, hy446⟩ : ∃ y_ : List Int, y_ = (List.replicate ((l1.length : Int) : Int).toNat 0) := ⟨_, rfl⟩
 replace H : (view_Expand.l0 k (wrap64 ((l1.length : Int) - (l0_1.length : Int))) l0_1 (l0_1.length : Int) 0 a0_0 l0_1 l0_2 a0_0 t443 y446) = some (r1, r2, r3, r4) := pH hy446 H
 have Ny446 := aM hy446
 clear hy446
 have H' := aM H
 clear H
 go_enter Try.func36, Try.ntmps36
 try go_wp2_with (first | ((with_reducible refine gate_dst (N := 2) rfl ?_); refine box_event ?hg (N := 2) ?hd (cs := #[.int .i64 a0_0, .slice A0_1 l0_1.length c0_1, .slice A0_2 l0_2.length c0_2]) (t := 24) ?hr ?_; (case hd => rfl); (case hg => rfl); (case hr => first | (go_simp; done) | (go_simp; rfl)); intro gb438 hg w12 hbox hb; have BK438 := aM (hbox); have GW438 := gE (w := w) hg (qB HB); have GE438 := GW438; replace HB := bS (qB HB) hb; clear hb hbox hg) | ((with_reducible refine gate_dst (N := 4) rfl ?_); refine box_event ?hg (N := 4) ?hd (cs := #[.int .i64 0, .slice none 0 0, .slice none 0 0]) (t := 24) ?hr ?_; (case hd => rfl); (case hg => rfl); (case hr => first | (go_simp; done) | (go_simp; rfl)); intro gb439 hg w13 hbox hb; have BK439 := aM (hbox); have GW439 := gE (w := w) hg (qB1 HB GE438); have GE439 := GW439; replace HB := bS (qB1 HB GE438) hb; have NB438_439 := nL hg BK438; have NB439_438 := nG hg BK438; replace BK438 := bK BK438 hb; clear hb hbox hg; have hnb14 := NB438_439.out; have hnc14 := NB439_438.out; obtain ⟨hcz15_0, hcz15_1, hcz15_2, hfz15_0, hfz15_1, hfz15_2⟩ := blk3 BK438.out) | ((with_reducible refine gate_callee (f := 39) rfl ?_); refine goesL_ (some 12) rfl rfl Try.func39 (by kernel_rfl) rfl #[.agg #[.int .i64 a0_0, .slice A0_1 l0_1.length c0_1, .slice A0_2 l0_2.length c0_2]] rfl pA ?_; (with_reducible refine (view_right.calls k a0_0 _ _ l0_1 _ _ l0_2 true _ ?s1 ?s2 ?s3 ?s4 A3.out).mono ?_); (case s1 => exact sC HR0_1 HB); (case s2 => exact HC0_1.out); (case s3 => exact sC HR0_2 HB); (case s4 => exact HC0_2.out); rintro e w16 ⟨rfl, hb⟩; refine ⟨_, rfl, ?_⟩; replace BK438 := bK BK438 hb; replace BK439 := bK BK439 hb; replace HB := bS (qB2 HB GE438 GE439) hb; (try clear hb); (try clear hk); (try clear hi)) | ((with_reducible refine gate_callee (f := 41) rfl ?_); refine goesL_ (some 16) rfl rfl Try.func41 (by kernel_rfl) rfl #[.slice A1 l1.length c1] rfl pA ?_; (with_reducible refine (shape_Check.calls _ _ l1 t441 _ ?s1 ?s2 A5.out).mono ?_); (case s1 => exact sC HR1 HB); (case s2 => exact HC1.out); rintro e w' ⟨rfl, ⟨nd, rfl⟩⟩; refine ⟨_, rfl, ?_⟩; (try (rw [drewN_self w16]; generalize hq_ : World.drewN w16 _ = w16; have n0_ : Aside0 (w16.heap[gb438]? = some (.cells #[.int .i64 a0_0, .slice A0_1 l0_1.length c0_1, .slice A0_2 l0_2.length c0_2] 24 (0, 0))) := ⟨by rw [← hq_]; exact (pK BK438.out)⟩; have n1_ : Aside0 (w16.heap[gb439]? = some (.cells #[.int .i64 0, .slice none 0 0, .slice none 0 0] 24 (0, 0))) := ⟨by rw [← hq_]; exact (pK BK439.out)⟩; have n2_ : Aside0 (Below w.heap.size w w16) := ⟨by rw [← hq_]; exact (qB2 HB GE438 GE439)⟩; clear BK438 BK439 HB hq_; have BK438 := n0_; have BK439 := n1_; have HB := n2_; clear n0_ n1_ n2_)); obtain ⟨hcz17_0, hcz17_1, hcz17_2, hfz17_0, hfz17_1, hfz17_2⟩ := blk3 BK438.out) | ((with_reducible refine gate_callee (f := 56) rfl ?_); refine goesL_ (some 24) rfl rfl Try.func56 (by kernel_rfl) rfl #[.slice A0_1 l0_1.length c0_1, .slice A1 l1.length c1] rfl pA ?_; (with_reducible refine (spread_Fits.calls k _ _ l0_1 _ _ l1 true _ ?s1 ?s2 ?s3 ?s4 A7.out).mono ?_); (case s1 => exact sC HR0_1 HB); (case s2 => exact HC0_1.out); (case s3 => exact sC HR1 HB); (case s4 => exact HC1.out); rintro e w18 ⟨rfl, hb⟩; refine ⟨_, rfl, ?_⟩; replace BK438 := bK BK438 hb; replace BK439 := bK BK439 hb; replace HB := bS (qB2 HB GE438 GE439) hb; (try clear hb); (try clear hk); (try clear hi)))
 replace BK438 := aM (blk_drew BK438.out)
 replace BK439 := aM (blk_drew BK439.out)
 replace HB := aM (below_drew1 HB.out)
 refine start_ (n := 10) (S := fun w' => w'.cell? ⟨gb438, 0, none⟩ = some (.int .i64 a0_0) ∧ w'.cell? ⟨gb438, 1, none⟩ = some (.slice A0_1 l0_1.length c0_1) ∧ w'.cell? ⟨gb438, 2, none⟩ = some (.slice A0_2 l0_2.length c0_2)) (ds := []) #[false, false, false, false, false, false, false, false, false, false] (by kernel_rfl) rfl rfl ⟨(blk_cell BK438.out 0).trans rfl, (blk_cell BK438.out 1).trans rfl, (blk_cell BK438.out 2).trans rfl⟩ (fun hHeld => ?_); refine with_tabW view_Expand.tab8 view_Expand.bits8 (fun HT_ HW_ => ?_)
 generalize w18.drew = w19 at BK438 BK439 HB hHeld ⊢
 refine pP (i := 0) (N := some 27) #[true, false, false, false, false, false, false, false, false, false] rfl rfl HT_.out ?_
 refine pP (i := 2) (N := some 29) #[true, false, true, false, false, false, false, false, false, false] rfl rfl HT_.out ?_
 refine pP (i := 4) (N := some 31) #[true, false, true, false, true, false, false, false, false, false] rfl rfl HT_.out ?_
 refine pP (i := 5) (N := some 32) #[true, false, true, false, true, true, false, false, false, false] rfl rfl HT_.out ?_
 refine pT (i := 1) (N := some 28) #[true, true, true, false, true, true, false, false, false, false] rfl rfl HT_.out HW_.out hHeld (by rintro w' ⟨s0, s1, s2⟩; go_simp; with_reducible rfl) ?_
 refine join_ (σ := Value × Value × Nat) 1 #[true, true, true, true, true, true, true, true, true, false] (fun s_ => [(30, s_.1), (33, s_.2.1), (7, .pointer (some ⟨s_.2.2, 0, none⟩)), (34, .agg #[.int .i64 a0_0, s_.1, s_.2.1])]) (fun s_ w' => (w'.cell? ⟨gb438, 0, none⟩ = some (.int .i64 a0_0) ∧ w'.cell? ⟨gb438, 1, none⟩ = some (.slice A0_1 l0_1.length c0_1) ∧ w'.cell? ⟨gb438, 2, none⟩ = some (.slice A0_2 l0_2.length c0_2)) ∧ (Kd.R (Kd.int .i64) 3 w' w.heap.size (fun k_ => some k_ ≠ (s_.2.1 : Value).ownBlock) s_.1 t443) ∧ (Kd.R (Kd.int .i64) 3 w' w.heap.size (fun k_ => some k_ ≠ (s_.1 : Value).ownBlock) s_.2.1 y446) ∧ (w'.heap[gb438]? = some (.cells #[.int .i64 a0_0, .slice A0_1 l0_1.length c0_1, .slice A0_2 l0_2.length c0_2] 24 (0, 0))) ∧ (w'.heap[gb439]? = some (.cells #[.int .i64 0, .slice none 0 0, .slice none 0 0] 24 (0, 0))) ∧ (w'.heap[s_.2.2]? = some (.cells #[.int .i64 0, .slice none 0 0, .slice none 0 0] 24 (0, 0))) ∧ (w.heap.size ≤ s_.2.2) ∧ (w.heap.size ≤ s_.2.2) ∧ (gb438 ≠ s_.2.2) ∧ (s_.2.2 ≠ gb438) ∧ (gb439 ≠ s_.2.2) ∧ (s_.2.2 ≠ gb439) ∧ (Below w.heap.size w w')) ?_ ?_
 rotate_left
 ·intro hJ3_6_8
  refine join_ (σ := Value × Value) 2 #[true, true, true, true, true, true, true, true, false, false] (fun s_ => [(30, s_.1), (33, s_.2), (34, .agg #[.int .i64 a0_0, s_.1, s_.2])]) (fun s_ w' => (w'.cell? ⟨gb438, 0, none⟩ = some (.int .i64 a0_0) ∧ w'.cell? ⟨gb438, 1, none⟩ = some (.slice A0_1 l0_1.length c0_1) ∧ w'.cell? ⟨gb438, 2, none⟩ = some (.slice A0_2 l0_2.length c0_2)) ∧ (Kd.R (Kd.int .i64) 3 w' w.heap.size (fun k_ => some k_ ≠ (s_.2 : Value).ownBlock) s_.1 t443) ∧ (Kd.R (Kd.int .i64) 3 w' w.heap.size (fun k_ => some k_ ≠ (s_.1 : Value).ownBlock) s_.2 y446) ∧ (w'.heap[gb438]? = some (.cells #[.int .i64 a0_0, .slice A0_1 l0_1.length c0_1, .slice A0_2 l0_2.length c0_2] 24 (0, 0))) ∧ (w'.heap[gb439]? = some (.cells #[.int .i64 0, .slice none 0 0, .slice none 0 0] 24 (0, 0))) ∧ (Below w.heap.size w w')) ?_ ?_
  rotate_left
  ·intro hJ3_6
   refine join_ (σ := Value × Nat) 3 #[true, true, true, true, true, true, false, false, true, false] (fun s_ => [(30, s_.1), (7, .pointer (some ⟨s_.2, 0, none⟩))]) (fun s_ w' => (w'.cell? ⟨gb438, 0, none⟩ = some (.int .i64 a0_0) ∧ w'.cell? ⟨gb438, 1, none⟩ = some (.slice A0_1 l0_1.length c0_1) ∧ w'.cell? ⟨gb438, 2, none⟩ = some (.slice A0_2 l0_2.length c0_2)) ∧ (Kd.R (Kd.int .i64) 3 w' w.heap.size (fun _ => True) s_.1 t443) ∧ (w'.heap[gb438]? = some (.cells #[.int .i64 a0_0, .slice A0_1 l0_1.length c0_1, .slice A0_2 l0_2.length c0_2] 24 (0, 0))) ∧ (w'.heap[gb439]? = some (.cells #[.int .i64 0, .slice none 0 0, .slice none 0 0] 24 (0, 0))) ∧ (w'.heap[s_.2]? = some (.cells #[.int .i64 0, .slice none 0 0, .slice none 0 0] 24 (0, 0))) ∧ (w.heap.size ≤ s_.2) ∧ (w.heap.size ≤ s_.2) ∧ (gb438 ≠ s_.2) ∧ (s_.2 ≠ gb438) ∧ (gb439 ≠ s_.2) ∧ (s_.2 ≠ gb439) ∧ (Below w.heap.size w w')) ?_ ?_
   rotate_left
   ·intro hJ3_8
    refine join_ (σ := Value × Nat) 3 #[true, true, true, false, true, true, true, false, true, false] (fun s_ => [(33, s_.1), (7, .pointer (some ⟨s_.2, 0, none⟩))]) (fun s_ w' => (w'.cell? ⟨gb438, 0, none⟩ = some (.int .i64 a0_0) ∧ w'.cell? ⟨gb438, 1, none⟩ = some (.slice A0_1 l0_1.length c0_1) ∧ w'.cell? ⟨gb438, 2, none⟩ = some (.slice A0_2 l0_2.length c0_2)) ∧ (Kd.R (Kd.int .i64) 3 w' w.heap.size (fun _ => True) s_.1 y446) ∧ (w'.heap[gb438]? = some (.cells #[.int .i64 a0_0, .slice A0_1 l0_1.length c0_1, .slice A0_2 l0_2.length c0_2] 24 (0, 0))) ∧ (w'.heap[gb439]? = some (.cells #[.int .i64 0, .slice none 0 0, .slice none 0 0] 24 (0, 0))) ∧ (w'.heap[s_.2]? = some (.cells #[.int .i64 0, .slice none 0 0, .slice none 0 0] 24 (0, 0))) ∧ (w.heap.size ≤ s_.2) ∧ (w.heap.size ≤ s_.2) ∧ (gb438 ≠ s_.2) ∧ (s_.2 ≠ gb438) ∧ (gb439 ≠ s_.2) ∧ (s_.2 ≠ gb439) ∧ (Below w.heap.size w w')) ?_ ?_
    rotate_left
    ·intro hJ6_8
     refine join_ (σ := Value) 4 #[true, true, true, true, true, true, false, false, false, false] (fun s_ => [(30, s_)]) (fun s_ w' => (w'.cell? ⟨gb438, 0, none⟩ = some (.int .i64 a0_0) ∧ w'.cell? ⟨gb438, 1, none⟩ = some (.slice A0_1 l0_1.length c0_1) ∧ w'.cell? ⟨gb438, 2, none⟩ = some (.slice A0_2 l0_2.length c0_2)) ∧ (Kd.R (Kd.int .i64) 3 w' w.heap.size (fun _ => True) s_ t443) ∧ (w'.heap[gb438]? = some (.cells #[.int .i64 a0_0, .slice A0_1 l0_1.length c0_1, .slice A0_2 l0_2.length c0_2] 24 (0, 0))) ∧ (w'.heap[gb439]? = some (.cells #[.int .i64 0, .slice none 0 0, .slice none 0 0] 24 (0, 0))) ∧ (Below w.heap.size w w')) ?_ ?_
     rotate_left
     ·intro hJ3
      refine join_ (σ := Value) 4 #[true, true, true, false, true, true, true, false, false, false] (fun s_ => [(33, s_)]) (fun s_ w' => (w'.cell? ⟨gb438, 0, none⟩ = some (.int .i64 a0_0) ∧ w'.cell? ⟨gb438, 1, none⟩ = some (.slice A0_1 l0_1.length c0_1) ∧ w'.cell? ⟨gb438, 2, none⟩ = some (.slice A0_2 l0_2.length c0_2)) ∧ (Kd.R (Kd.int .i64) 3 w' w.heap.size (fun _ => True) s_ y446) ∧ (w'.heap[gb438]? = some (.cells #[.int .i64 a0_0, .slice A0_1 l0_1.length c0_1, .slice A0_2 l0_2.length c0_2] 24 (0, 0))) ∧ (w'.heap[gb439]? = some (.cells #[.int .i64 0, .slice none 0 0, .slice none 0 0] 24 (0, 0))) ∧ (Below w.heap.size w w')) ?_ ?_
      rotate_left
      ·intro hJ6
       refine join_ (σ := Nat) 4 #[true, true, true, false, true, true, false, false, true, false] (fun s_ => [(7, .pointer (some ⟨s_, 0, none⟩))]) (fun s_ w' => (w'.cell? ⟨gb438, 0, none⟩ = some (.int .i64 a0_0) ∧ w'.cell? ⟨gb438, 1, none⟩ = some (.slice A0_1 l0_1.length c0_1) ∧ w'.cell? ⟨gb438, 2, none⟩ = some (.slice A0_2 l0_2.length c0_2)) ∧ (w'.heap[gb438]? = some (.cells #[.int .i64 a0_0, .slice A0_1 l0_1.length c0_1, .slice A0_2 l0_2.length c0_2] 24 (0, 0))) ∧ (w'.heap[gb439]? = some (.cells #[.int .i64 0, .slice none 0 0, .slice none 0 0] 24 (0, 0))) ∧ (w'.heap[s_]? = some (.cells #[.int .i64 0, .slice none 0 0, .slice none 0 0] 24 (0, 0))) ∧ (w.heap.size ≤ s_) ∧ (w.heap.size ≤ s_) ∧ (gb438 ≠ s_) ∧ (s_ ≠ gb438) ∧ (gb439 ≠ s_) ∧ (s_ ≠ gb439) ∧ (Below w.heap.size w w')) ?_ ?_
       rotate_left
       ·intro hJ8
        refine three_ (i := 3) (j := 6) (k := 8) (Ni := some 30) (Nj := some 33) (Nk := some 7) #[true, true, true, true, true, true, false, false, false, false] #[true, true, true, false, true, true, true, false, false, false] #[true, true, true, false, true, true, false, false, true, false] rfl rfl rfl rfl rfl rfl (three_of HT_.out (by kernel_rfl)) (by decide) (by decide) (by decide) (fun K hK => ?_) (fun K hK => ?_) (fun K hK => ?_)
        ·skip
         refine goes_ Try.func43 (by kernel_rfl) rfl #[.slice A1 l1.length c1] (by rfl) rfl rfl pA ?_
         with_reducible refine (slices_Clone_int_int.calls _ _ l1 t443 _ ?s1 ?s2 A9.out).mono ?_
         (case s1 => exact sC HR1 HB)
         (case s2 => exact HC1.out)
         rintro e w20 ⟨v444, rfl, ho0, hb⟩
         refine ⟨_, rfl, ?_⟩
         have HO445 := aM (Kd.R_lower ho0 (below_size (qB2 HB GE438 GE439)))
         replace BK438 := bK BK438 hb
         replace BK439 := bK BK439 hb
         replace HB := bS (qB2 HB GE438 GE439) hb
         (try clear hb)
         (try clear hk)
         (try clear hi)
         (try clear ho0)
         refine hK.out _ _ ⟨(blk_cell BK438.out 0).trans rfl, (blk_cell BK438.out 1).trans rfl, (blk_cell BK438.out 2).trans rfl⟩ (fun hHeld => ?_)
         clear hK K
         refine norm_ (a' := ?_) ?_ ?_
         rotate_left
         ·show Act.put _ (some 30) _ = _
          simp only [Act.put, sP, i64_w, i32_w]
          rfl
         exact norm_ (by first | (simp only [putAll, Act.put, List.setIfInBounds_toArray, List.set_cons_zero, List.set_cons_succ]; done) | (simp only [putAll, Act.put, List.setIfInBounds_toArray, List.set_cons_zero, List.set_cons_succ]; rfl)) (hJ3 (v444) _ ⟨hHeld, (pR HO445.out), (pK BK438.out), (pK BK439.out), (qB2 HB GE438 GE439)⟩)
        ·skip
         refine Kd.R_make_step (Kd.int .i64) _ 3 (by rfl) (N := 33) rfl 22 _ _ rfl (l1.length : Int) rfl rfl Try.underlying22 (.int .i64 0) 8 info3 rfl (by decide) (by omega) 0 (ok := fun _ => True) (okp := fun _ => True) rfl (fun _ hk => hk) trivial (of_decide_eq_true pD) (Nat.le_trans (Nat.mul_le_mul_right _ (of_decide_eq_true pD : (l1.length : Int).toNat ≤ 35184372088832)) (by omega)) (Below.refl _ _) (Nat.le_refl _) ?_
         intro v447 w20 ho21 hb hg_ hnew_
         clear hg_ hnew_
         (first | rw [← Ny446.out] at ho21 | (simp only [Int.reduceToNat] at ho21; rw [← Ny446.out] at ho21))
         have HO448 := aM (Kd.R_lower ho21 (below_size (qB2 HB GE438 GE439)))
         replace BK438 := bK BK438 hb
         replace BK439 := bK BK439 hb
         replace HB := bS (qB2 HB GE438 GE439) hb
         clear hb ho21
         refine hK.out _ _ ⟨(blk_cell BK438.out 0).trans rfl, (blk_cell BK438.out 1).trans rfl, (blk_cell BK438.out 2).trans rfl⟩ (fun hHeld => ?_)
         clear hK K
         refine norm_ (a' := ?_) ?_ ?_
         rotate_left
         ·show Act.put _ (some 33) _ = _
          simp only [Act.put, sP, i64_w, i32_w]
          rfl
         exact norm_ (by first | (simp only [putAll, Act.put, List.setIfInBounds_toArray, List.set_cons_zero, List.set_cons_succ]; done) | (simp only [putAll, Act.put, List.setIfInBounds_toArray, List.set_cons_zero, List.set_cons_succ]; rfl)) (hJ6 (v447) _ ⟨hHeld, (pR HO448.out), (pK BK438.out), (pK BK439.out), (qB2 HB GE438 GE439)⟩)
        ·skip
         refine box_step ?hg (N := 7) ?hd (cs := #[.int .i64 0, .slice none 0 0, .slice none 0 0]) (t := 24) ?hr ?_; (case hd => rfl); (case hg => rfl); (case hr => first | (go_simp; done) | (go_simp; rfl))
         intro gb449 hg w20 hbox hb
         have BK449 := aM (hbox)
         have GW449 := gE (w := w) hg (qB2 HB GE438 GE439)
         have GE449 := GW449
         replace HB := bS (qB2 HB GE438 GE439) hb
         have NB438_449 := nL hg BK438
         have NB449_438 := nG hg BK438
         replace BK438 := bK BK438 hb
         have NB439_449 := nL hg BK439
         have NB449_439 := nG hg BK439
         replace BK439 := bK BK439 hb
         clear hb hbox hg
         refine hK.out _ _ ⟨(blk_cell BK438.out 0).trans rfl, (blk_cell BK438.out 1).trans rfl, (blk_cell BK438.out 2).trans rfl⟩ (fun hHeld => ?_)
         clear hK K
         refine norm_ (a' := ?_) ?_ ?_
         rotate_left
         ·show Act.put _ (some 7) _ = _
          simp only [Act.put, sP, i64_w, i32_w]
          rfl
         exact norm_ (by first | (simp only [putAll, Act.put, List.setIfInBounds_toArray, List.set_cons_zero, List.set_cons_succ]; done) | (simp only [putAll, Act.put, List.setIfInBounds_toArray, List.set_cons_zero, List.set_cons_succ]; rfl)) (hJ8 (gb449) _ ⟨hHeld, (pK BK438.out), (pK BK439.out), (pK BK449.out), GW449.out, GE449.out, NB438_449.out, NB449_438.out, NB439_449.out, NB449_439.out, (qB3 HB GE438 GE439 GE449)⟩)
       ·skip
        rintro gb449 w21 ⟨hS_, h0_, h1_, h2_, h3_, h4_, h5_, h6_, h7_, h8_, h9_⟩
        have n0_ : Aside0 (w21.heap[gb438]? = some (.cells #[.int .i64 a0_0, .slice A0_1 l0_1.length c0_1, .slice A0_2 l0_2.length c0_2] 24 (0, 0))) := ⟨h0_⟩
        have n1_ : Aside0 (w21.heap[gb439]? = some (.cells #[.int .i64 0, .slice none 0 0, .slice none 0 0] 24 (0, 0))) := ⟨h1_⟩
        have n2_ : Aside0 (w21.heap[gb449]? = some (.cells #[.int .i64 0, .slice none 0 0, .slice none 0 0] 24 (0, 0))) := ⟨h2_⟩
        have n3_ : Aside0 (w.heap.size ≤ gb449) := ⟨h3_⟩
        have n4_ : Aside0 (w.heap.size ≤ gb449) := ⟨h4_⟩
        have n5_ : Aside0 (gb438 ≠ gb449) := ⟨h5_⟩
        have n6_ : Aside0 (gb449 ≠ gb438) := ⟨h6_⟩
        have n7_ : Aside0 (gb439 ≠ gb449) := ⟨h7_⟩
        have n8_ : Aside0 (gb449 ≠ gb439) := ⟨h8_⟩
        have n9_ : Aside0 (Below w.heap.size w w21) := ⟨h9_⟩
        clear BK438
        clear BK439
        clear HB
        clear h0_ h1_ h2_ h3_ h4_ h5_ h6_ h7_ h8_ h9_
        have BK438 := n0_
        have BK439 := n1_
        have BK449 := n2_
        have GW449 := n3_
        have GE449 := n4_
        have NB438_449 := n5_
        have NB449_438 := n6_
        have NB439_449 := n7_
        have NB449_439 := n8_
        have HB := n9_
        clear n0_ n1_ n2_ n3_ n4_ n5_ n6_ n7_ n8_ n9_
        have hHeld : w21.cell? ⟨gb438, 0, none⟩ = some (.int .i64 a0_0) ∧ w21.cell? ⟨gb438, 1, none⟩ = some (.slice A0_1 l0_1.length c0_1) ∧ w21.cell? ⟨gb438, 2, none⟩ = some (.slice A0_2 l0_2.length c0_2) := hS_
        refine norm_ (a' := ?_) ?_ ?_
        rotate_left
        ·simp only [putAll, Act.put, List.setIfInBounds_toArray, List.set_cons_zero, List.set_cons_succ]
         rfl
        refine two_ (i := 3) (j := 6) (Ni := some 30) (Nj := some 33) #[true, true, true, true, true, true, false, false, true, false] #[true, true, true, false, true, true, true, false, true, false] rfl rfl rfl rfl (two_of HT_.out (by kernel_rfl)) (by decide) (by decide) (fun K hK => ?_) (fun K hK => ?_)
        ·skip
         refine goes_ Try.func43 (by kernel_rfl) rfl #[.slice A1 l1.length c1] (by rfl) rfl rfl pA ?_
         with_reducible refine (slices_Clone_int_int.calls _ _ l1 t443 _ ?s1 ?s2 A9.out).mono ?_
         (case s1 => exact sC HR1 HB)
         (case s2 => exact HC1.out)
         rintro e w22 ⟨v444, rfl, ho0, hb⟩
         refine ⟨_, rfl, ?_⟩
         have HO445 := aM (Kd.R_lower ho0 (below_size (qB3 HB GE438 GE439 GE449)))
         replace BK438 := bK BK438 hb
         replace BK439 := bK BK439 hb
         replace BK449 := bK BK449 hb
         replace HB := bS (qB3 HB GE438 GE439 GE449) hb
         (try clear hb)
         (try clear ho0)
         refine hK.out _ _ ⟨(blk_cell BK438.out 0).trans rfl, (blk_cell BK438.out 1).trans rfl, (blk_cell BK438.out 2).trans rfl⟩ (fun hHeld => ?_)
         clear hK K
         refine norm_ (a' := ?_) ?_ ?_
         rotate_left
         ·show Act.put _ (some 30) _ = _
          simp only [Act.put, sP, i64_w, i32_w]
          rfl
         exact norm_ (by first | (simp only [putAll, Act.put, List.setIfInBounds_toArray, List.set_cons_zero, List.set_cons_succ]; done) | (simp only [putAll, Act.put, List.setIfInBounds_toArray, List.set_cons_zero, List.set_cons_succ]; rfl)) (hJ3_8 (v444, gb449) _ ⟨hHeld, (pR HO445.out), (pK BK438.out), (pK BK439.out), (pK BK449.out), GW449.out, GE449.out, NB438_449.out, NB449_438.out, NB439_449.out, NB449_439.out, (qB3 HB GE438 GE439 GE449)⟩)
        ·skip
         refine Kd.R_make_step (Kd.int .i64) _ 3 (by rfl) (N := 33) rfl 22 _ _ rfl (l1.length : Int) rfl rfl Try.underlying22 (.int .i64 0) 8 info3 rfl (by decide) (by omega) 0 (ok := fun _ => True) (okp := fun _ => True) rfl (fun _ hk => hk) trivial (of_decide_eq_true pD) (Nat.le_trans (Nat.mul_le_mul_right _ (of_decide_eq_true pD : (l1.length : Int).toNat ≤ 35184372088832)) (by omega)) (Below.refl _ _) (Nat.le_refl _) ?_
         intro v447 w22 ho23 hb hg_ hnew_
         clear hg_ hnew_
         (first | rw [← Ny446.out] at ho23 | (simp only [Int.reduceToNat] at ho23; rw [← Ny446.out] at ho23))
         have HO448 := aM (Kd.R_lower ho23 (below_size (qB3 HB GE438 GE439 GE449)))
         replace BK438 := bK BK438 hb
         replace BK439 := bK BK439 hb
         replace BK449 := bK BK449 hb
         replace HB := bS (qB3 HB GE438 GE439 GE449) hb
         clear hb ho23
         refine hK.out _ _ ⟨(blk_cell BK438.out 0).trans rfl, (blk_cell BK438.out 1).trans rfl, (blk_cell BK438.out 2).trans rfl⟩ (fun hHeld => ?_)
         clear hK K
         refine norm_ (a' := ?_) ?_ ?_
         rotate_left
         ·show Act.put _ (some 33) _ = _
          simp only [Act.put, sP, i64_w, i32_w]
          rfl
         exact norm_ (by first | (simp only [putAll, Act.put, List.setIfInBounds_toArray, List.set_cons_zero, List.set_cons_succ]; done) | (simp only [putAll, Act.put, List.setIfInBounds_toArray, List.set_cons_zero, List.set_cons_succ]; rfl)) (hJ6_8 (v447, gb449) _ ⟨hHeld, (pR HO448.out), (pK BK438.out), (pK BK439.out), (pK BK449.out), GW449.out, GE449.out, NB438_449.out, NB449_438.out, NB439_449.out, NB449_439.out, (qB3 HB GE438 GE439 GE449)⟩)
      ·skip
       rintro v447 w22 ⟨hS_, h0_, h1_, h2_, h3_⟩
       have n0_ : Aside0 (Kd.R (Kd.int .i64) 3 w22 w.heap.size (fun _ => True) v447 y446) := ⟨h0_⟩
       have n1_ : Aside0 (w22.heap[gb438]? = some (.cells #[.int .i64 a0_0, .slice A0_1 l0_1.length c0_1, .slice A0_2 l0_2.length c0_2] 24 (0, 0))) := ⟨h1_⟩
       have n2_ : Aside0 (w22.heap[gb439]? = some (.cells #[.int .i64 0, .slice none 0 0, .slice none 0 0] 24 (0, 0))) := ⟨h2_⟩
       have n3_ : Aside0 (Below w.heap.size w w22) := ⟨h3_⟩
       clear BK438
       clear BK439
       clear HB
       clear h0_ h1_ h2_ h3_
       have HO448 := n0_
       have BK438 := n1_
       have BK439 := n2_
       have HB := n3_
       clear n0_ n1_ n2_ n3_
       have hHeld : w22.cell? ⟨gb438, 0, none⟩ = some (.int .i64 a0_0) ∧ w22.cell? ⟨gb438, 1, none⟩ = some (.slice A0_1 l0_1.length c0_1) ∧ w22.cell? ⟨gb438, 2, none⟩ = some (.slice A0_2 l0_2.length c0_2) := hS_
       refine norm_ (a' := ?_) ?_ ?_
       rotate_left
       ·simp only [putAll, Act.put, List.setIfInBounds_toArray, List.set_cons_zero, List.set_cons_succ]
        rfl
       refine two_ (i := 3) (j := 8) (Ni := some 30) (Nj := some 7) #[true, true, true, true, true, true, true, false, false, false] #[true, true, true, false, true, true, true, false, true, false] rfl rfl rfl rfl (two_of HT_.out (by kernel_rfl)) (by decide) (by decide) (fun K hK => ?_) (fun K hK => ?_)
       ·skip
        refine goes_ Try.func43 (by kernel_rfl) rfl #[.slice A1 l1.length c1] (by rfl) rfl rfl pA ?_
        with_reducible refine (slices_Clone_int_int.calls _ _ l1 t443 _ ?s1 ?s2 A9.out).mono ?_
        (case s1 => exact sC HR1 HB)
        (case s2 => exact HC1.out)
        rintro e w23 ⟨v444, rfl, ho0, hb⟩
        refine ⟨_, rfl, ?_⟩
        have HO445 := aM (Kd.R_lower (Kd.R_new' ho0 (Kd.R_lt (pR HO448.out))) (below_size (qB2 HB GE438 GE439)))
        replace HO448 := eR HO448 ho0 hb
        replace BK438 := bK BK438 hb
        replace BK439 := bK BK439 hb
        replace HB := bS (qB2 HB GE438 GE439) hb
        (try clear hb)
        (try clear ho0)
        obtain ⟨Ao24, co24, eo24⟩ := Kd.R_slice HO448.out
        (first | subst eo24 | (injection eo24 with f1_ f2_ f3_; have f4_ := f1_.symm; have f5_ := f3_.symm; clear f1_ f2_ f3_; subst f4_; subst f5_))
        obtain ⟨Ao25, co25, eo25⟩ := Kd.R_slice HO445.out
        (first | subst eo25 | (injection eo25 with f1_ f2_ f3_; have f4_ := f1_.symm; have f5_ := f3_.symm; clear f1_ f2_ f3_; subst f4_; subst f5_))
        refine hK.out _ _ ⟨(blk_cell BK438.out 0).trans rfl, (blk_cell BK438.out 1).trans rfl, (blk_cell BK438.out 2).trans rfl⟩ (fun hHeld => ?_)
        clear hK K
        refine norm_ (a' := ?_) ?_ ?_
        rotate_left
        ·show Act.put _ (some 30) _ = _
         simp only [Act.put, sP, i64_w, i32_w]
         rfl
        refine pP (i := 7) (N := some 34) #[true, true, true, true, true, true, true, true, false, false] rfl rfl HT_.out ?_
        exact norm_ (by first | (simp only [putAll, Act.put, List.setIfInBounds_toArray, List.set_cons_zero, List.set_cons_succ]; done) | (simp only [putAll, Act.put, List.setIfInBounds_toArray, List.set_cons_zero, List.set_cons_succ]; rfl)) (hJ3_6 (.slice Ao25 t443.length co25, .slice Ao24 y446.length co24) _ ⟨hHeld, (by (with_reducible repeat (first | apply rA | apply rN | apply rD)); exact Kd.R_mono HO445.out (fun _ hk => hk.2)), (by (with_reducible repeat (first | apply rA | apply rN | apply rD)); exact Kd.R_mono HO448.out (fun _ hk => hk.2)), (pK BK438.out), (pK BK439.out), (qB2 HB GE438 GE439)⟩)
       ·skip
        refine box_step ?hg (N := 7) ?hd (cs := #[.int .i64 0, .slice none 0 0, .slice none 0 0]) (t := 24) ?hr ?_; (case hd => rfl); (case hg => rfl); (case hr => first | (go_simp; done) | (go_simp; rfl))
        intro gb449 hg w23 hbox hb
        replace HO448 := bR HO448 hb
        have BK449 := aM (hbox)
        have GW449 := gE (w := w) hg (qB2 HB GE438 GE439)
        have GE449 := GW449
        replace HB := bS (qB2 HB GE438 GE439) hb
        have NB438_449 := nL hg BK438
        have NB449_438 := nG hg BK438
        replace BK438 := bK BK438 hb
        have NB439_449 := nL hg BK439
        have NB449_439 := nG hg BK439
        replace BK439 := bK BK439 hb
        clear hb hbox hg
        refine hK.out _ _ ⟨(blk_cell BK438.out 0).trans rfl, (blk_cell BK438.out 1).trans rfl, (blk_cell BK438.out 2).trans rfl⟩ (fun hHeld => ?_)
        clear hK K
        refine norm_ (a' := ?_) ?_ ?_
        rotate_left
        ·show Act.put _ (some 7) _ = _
         simp only [Act.put, sP, i64_w, i32_w]
         rfl
        exact norm_ (by first | (simp only [putAll, Act.put, List.setIfInBounds_toArray, List.set_cons_zero, List.set_cons_succ]; done) | (simp only [putAll, Act.put, List.setIfInBounds_toArray, List.set_cons_zero, List.set_cons_succ]; rfl)) (hJ6_8 (v447, gb449) _ ⟨hHeld, (pR HO448.out), (pK BK438.out), (pK BK439.out), (pK BK449.out), GW449.out, GE449.out, NB438_449.out, NB449_438.out, NB439_449.out, NB449_439.out, (qB3 HB GE438 GE439 GE449)⟩)
     ·skip
      rintro v444 w21 ⟨hS_, h0_, h1_, h2_, h3_⟩
      have n0_ : Aside0 (Kd.R (Kd.int .i64) 3 w21 w.heap.size (fun _ => True) v444 t443) := ⟨h0_⟩
      have n1_ : Aside0 (w21.heap[gb438]? = some (.cells #[.int .i64 a0_0, .slice A0_1 l0_1.length c0_1, .slice A0_2 l0_2.length c0_2] 24 (0, 0))) := ⟨h1_⟩
      have n2_ : Aside0 (w21.heap[gb439]? = some (.cells #[.int .i64 0, .slice none 0 0, .slice none 0 0] 24 (0, 0))) := ⟨h2_⟩
      have n3_ : Aside0 (Below w.heap.size w w21) := ⟨h3_⟩
      clear BK438
      clear BK439
      clear HB
      clear h0_ h1_ h2_ h3_
      have HO445 := n0_
      have BK438 := n1_
      have BK439 := n2_
      have HB := n3_
      clear n0_ n1_ n2_ n3_
      have hHeld : w21.cell? ⟨gb438, 0, none⟩ = some (.int .i64 a0_0) ∧ w21.cell? ⟨gb438, 1, none⟩ = some (.slice A0_1 l0_1.length c0_1) ∧ w21.cell? ⟨gb438, 2, none⟩ = some (.slice A0_2 l0_2.length c0_2) := hS_
      refine norm_ (a' := ?_) ?_ ?_
      rotate_left
      ·simp only [putAll, Act.put, List.setIfInBounds_toArray, List.set_cons_zero, List.set_cons_succ]
       rfl
      refine two_ (i := 6) (j := 8) (Ni := some 33) (Nj := some 7) #[true, true, true, true, true, true, true, false, false, false] #[true, true, true, true, true, true, false, false, true, false] rfl rfl rfl rfl (two_of HT_.out (by kernel_rfl)) (by decide) (by decide) (fun K hK => ?_) (fun K hK => ?_)
      ·skip
       refine Kd.R_make_step (Kd.int .i64) _ 3 (by rfl) (N := 33) rfl 22 _ _ rfl (l1.length : Int) rfl rfl Try.underlying22 (.int .i64 0) 8 info3 rfl (by decide) (by omega) 0 (ok := fun _ => True) (okp := fun _ => True) rfl (fun _ hk => hk) trivial (of_decide_eq_true pD) (Nat.le_trans (Nat.mul_le_mul_right _ (of_decide_eq_true pD : (l1.length : Int).toNat ≤ 35184372088832)) (by omega)) (Below.refl _ _) (Nat.le_refl _) ?_
       intro v447 w22 ho23 hb hg_ hnew_
       clear hg_ hnew_
       (first | rw [← Ny446.out] at ho23 | (simp only [Int.reduceToNat] at ho23; rw [← Ny446.out] at ho23))
       have HO448 := aM (Kd.R_lower (Kd.R_new' ho23 (Kd.R_lt (pR HO445.out))) (below_size (qB2 HB GE438 GE439)))
       replace HO445 := eR HO445 ho23 hb
       replace BK438 := bK BK438 hb
       replace BK439 := bK BK439 hb
       replace HB := bS (qB2 HB GE438 GE439) hb
       clear hb ho23
       obtain ⟨Ao24, co24, eo24⟩ := Kd.R_slice HO448.out
       (first | subst eo24 | (injection eo24 with f1_ f2_ f3_; have f4_ := f1_.symm; have f5_ := f3_.symm; clear f1_ f2_ f3_; subst f4_; subst f5_))
       obtain ⟨Ao25, co25, eo25⟩ := Kd.R_slice HO445.out
       (first | subst eo25 | (injection eo25 with f1_ f2_ f3_; have f4_ := f1_.symm; have f5_ := f3_.symm; clear f1_ f2_ f3_; subst f4_; subst f5_))
       refine hK.out _ _ ⟨(blk_cell BK438.out 0).trans rfl, (blk_cell BK438.out 1).trans rfl, (blk_cell BK438.out 2).trans rfl⟩ (fun hHeld => ?_)
       clear hK K
       refine norm_ (a' := ?_) ?_ ?_
       rotate_left
       ·show Act.put _ (some 33) _ = _
        simp only [Act.put, sP, i64_w, i32_w]
        rfl
       refine pP (i := 7) (N := some 34) #[true, true, true, true, true, true, true, true, false, false] rfl rfl HT_.out ?_
       exact norm_ (by first | (simp only [putAll, Act.put, List.setIfInBounds_toArray, List.set_cons_zero, List.set_cons_succ]; done) | (simp only [putAll, Act.put, List.setIfInBounds_toArray, List.set_cons_zero, List.set_cons_succ]; rfl)) (hJ3_6 (.slice Ao25 t443.length co25, .slice Ao24 y446.length co24) _ ⟨hHeld, (by (with_reducible repeat (first | apply rA | apply rN | apply rD)); exact Kd.R_mono HO445.out (fun _ hk => hk.2)), (by (with_reducible repeat (first | apply rA | apply rN | apply rD)); exact Kd.R_mono HO448.out (fun _ hk => hk.2)), (pK BK438.out), (pK BK439.out), (qB2 HB GE438 GE439)⟩)
      ·skip
       refine box_step ?hg (N := 7) ?hd (cs := #[.int .i64 0, .slice none 0 0, .slice none 0 0]) (t := 24) ?hr ?_; (case hd => rfl); (case hg => rfl); (case hr => first | (go_simp; done) | (go_simp; rfl))
       intro gb449 hg w22 hbox hb
       replace HO445 := bR HO445 hb
       have BK449 := aM (hbox)
       have GW449 := gE (w := w) hg (qB2 HB GE438 GE439)
       have GE449 := GW449
       replace HB := bS (qB2 HB GE438 GE439) hb
       have NB438_449 := nL hg BK438
       have NB449_438 := nG hg BK438
       replace BK438 := bK BK438 hb
       have NB439_449 := nL hg BK439
       have NB449_439 := nG hg BK439
       replace BK439 := bK BK439 hb
       clear hb hbox hg
       refine hK.out _ _ ⟨(blk_cell BK438.out 0).trans rfl, (blk_cell BK438.out 1).trans rfl, (blk_cell BK438.out 2).trans rfl⟩ (fun hHeld => ?_)
       clear hK K
       refine norm_ (a' := ?_) ?_ ?_
       rotate_left
       ·show Act.put _ (some 7) _ = _
        simp only [Act.put, sP, i64_w, i32_w]
        rfl
       exact norm_ (by first | (simp only [putAll, Act.put, List.setIfInBounds_toArray, List.set_cons_zero, List.set_cons_succ]; done) | (simp only [putAll, Act.put, List.setIfInBounds_toArray, List.set_cons_zero, List.set_cons_succ]; rfl)) (hJ3_8 (v444, gb449) _ ⟨hHeld, (pR HO445.out), (pK BK438.out), (pK BK439.out), (pK BK449.out), GW449.out, GE449.out, NB438_449.out, NB449_438.out, NB439_449.out, NB449_439.out, (qB3 HB GE438 GE439 GE449)⟩)
    ·skip
     rintro ⟨v447, gb449⟩ w23 ⟨hS_, h0_, h1_, h2_, h3_, h4_, h5_, h6_, h7_, h8_, h9_, h10_⟩
     have n0_ : Aside0 (Kd.R (Kd.int .i64) 3 w23 w.heap.size (fun _ => True) v447 y446) := ⟨h0_⟩
     have n1_ : Aside0 (w23.heap[gb438]? = some (.cells #[.int .i64 a0_0, .slice A0_1 l0_1.length c0_1, .slice A0_2 l0_2.length c0_2] 24 (0, 0))) := ⟨h1_⟩
     have n2_ : Aside0 (w23.heap[gb439]? = some (.cells #[.int .i64 0, .slice none 0 0, .slice none 0 0] 24 (0, 0))) := ⟨h2_⟩
     have n3_ : Aside0 (w23.heap[gb449]? = some (.cells #[.int .i64 0, .slice none 0 0, .slice none 0 0] 24 (0, 0))) := ⟨h3_⟩
     have n4_ : Aside0 (w.heap.size ≤ gb449) := ⟨h4_⟩
     have n5_ : Aside0 (w.heap.size ≤ gb449) := ⟨h5_⟩
     have n6_ : Aside0 (gb438 ≠ gb449) := ⟨h6_⟩
     have n7_ : Aside0 (gb449 ≠ gb438) := ⟨h7_⟩
     have n8_ : Aside0 (gb439 ≠ gb449) := ⟨h8_⟩
     have n9_ : Aside0 (gb449 ≠ gb439) := ⟨h9_⟩
     have n10_ : Aside0 (Below w.heap.size w w23) := ⟨h10_⟩
     clear BK438
     clear BK439
     clear HB
     clear h0_ h1_ h2_ h3_ h4_ h5_ h6_ h7_ h8_ h9_ h10_
     have HO448 := n0_
     have BK438 := n1_
     have BK439 := n2_
     have BK449 := n3_
     have GW449 := n4_
     have GE449 := n5_
     have NB438_449 := n6_
     have NB449_438 := n7_
     have NB439_449 := n8_
     have NB449_439 := n9_
     have HB := n10_
     clear n0_ n1_ n2_ n3_ n4_ n5_ n6_ n7_ n8_ n9_ n10_
     have hHeld : w23.cell? ⟨gb438, 0, none⟩ = some (.int .i64 a0_0) ∧ w23.cell? ⟨gb438, 1, none⟩ = some (.slice A0_1 l0_1.length c0_1) ∧ w23.cell? ⟨gb438, 2, none⟩ = some (.slice A0_2 l0_2.length c0_2) := hS_
     refine norm_ (a' := ?_) ?_ ?_
     rotate_left
     ·simp only [putAll, Act.put, List.setIfInBounds_toArray, List.set_cons_zero, List.set_cons_succ]
      rfl
     refine one_ (i := 3) (N := some 30) #[true, true, true, true, true, true, true, false, true, false] rfl rfl (one_of HT_.out (by kernel_rfl)) (by decide) (fun K hK => ?_)
     refine goes_ Try.func43 (by kernel_rfl) rfl #[.slice A1 l1.length c1] (by rfl) rfl rfl pA ?_
     with_reducible refine (slices_Clone_int_int.calls _ _ l1 t443 _ ?s1 ?s2 A9.out).mono ?_
     (case s1 => exact sC HR1 HB)
     (case s2 => exact HC1.out)
     rintro e w24 ⟨v444, rfl, ho0, hb⟩
     refine ⟨_, rfl, ?_⟩
     have HO445 := aM (Kd.R_lower (Kd.R_new' ho0 (Kd.R_lt (pR HO448.out))) (below_size (qB3 HB GE438 GE439 GE449)))
     replace HO448 := eR HO448 ho0 hb
     replace BK438 := bK BK438 hb
     replace BK439 := bK BK439 hb
     replace BK449 := bK BK449 hb
     replace HB := bS (qB3 HB GE438 GE439 GE449) hb
     (try clear hb)
     (try clear ho0)
     obtain ⟨Ao25, co25, eo25⟩ := Kd.R_slice HO448.out
     (first | subst eo25 | (injection eo25 with f1_ f2_ f3_; have f4_ := f1_.symm; have f5_ := f3_.symm; clear f1_ f2_ f3_; subst f4_; subst f5_))
     obtain ⟨Ao26, co26, eo26⟩ := Kd.R_slice HO445.out
     (first | subst eo26 | (injection eo26 with f1_ f2_ f3_; have f4_ := f1_.symm; have f5_ := f3_.symm; clear f1_ f2_ f3_; subst f4_; subst f5_))
     refine hK.out _ _ ⟨(blk_cell BK438.out 0).trans rfl, (blk_cell BK438.out 1).trans rfl, (blk_cell BK438.out 2).trans rfl⟩ (fun hHeld => ?_)
     clear hK K
     refine norm_ (a' := ?_) ?_ ?_
     rotate_left
     ·show Act.put _ (some 30) _ = _
      simp only [Act.put, sP, i64_w, i32_w]
      rfl
     refine pP (i := 7) (N := some 34) #[true, true, true, true, true, true, true, true, true, false] rfl rfl HT_.out ?_
     exact norm_ (by first | (simp only [putAll, Act.put, List.setIfInBounds_toArray, List.set_cons_zero, List.set_cons_succ]; done) | (simp only [putAll, Act.put, List.setIfInBounds_toArray, List.set_cons_zero, List.set_cons_succ]; rfl)) (hJ3_6_8 (.slice Ao26 t443.length co26, .slice Ao25 y446.length co25, gb449) _ ⟨hHeld, (by (with_reducible repeat (first | apply rA | apply rN | apply rD)); exact Kd.R_mono HO445.out (fun _ hk => hk.2)), (by (with_reducible repeat (first | apply rA | apply rN | apply rD)); exact Kd.R_mono HO448.out (fun _ hk => hk.2)), (pK BK438.out), (pK BK439.out), (pK BK449.out), GW449.out, GE449.out, NB438_449.out, NB449_438.out, NB439_449.out, NB449_439.out, (qB3 HB GE438 GE439 GE449)⟩)
   ·skip
    rintro ⟨v444, gb449⟩ w22 ⟨hS_, h0_, h1_, h2_, h3_, h4_, h5_, h6_, h7_, h8_, h9_, h10_⟩
    have n0_ : Aside0 (Kd.R (Kd.int .i64) 3 w22 w.heap.size (fun _ => True) v444 t443) := ⟨h0_⟩
    have n1_ : Aside0 (w22.heap[gb438]? = some (.cells #[.int .i64 a0_0, .slice A0_1 l0_1.length c0_1, .slice A0_2 l0_2.length c0_2] 24 (0, 0))) := ⟨h1_⟩
    have n2_ : Aside0 (w22.heap[gb439]? = some (.cells #[.int .i64 0, .slice none 0 0, .slice none 0 0] 24 (0, 0))) := ⟨h2_⟩
    have n3_ : Aside0 (w22.heap[gb449]? = some (.cells #[.int .i64 0, .slice none 0 0, .slice none 0 0] 24 (0, 0))) := ⟨h3_⟩
    have n4_ : Aside0 (w.heap.size ≤ gb449) := ⟨h4_⟩
    have n5_ : Aside0 (w.heap.size ≤ gb449) := ⟨h5_⟩
    have n6_ : Aside0 (gb438 ≠ gb449) := ⟨h6_⟩
    have n7_ : Aside0 (gb449 ≠ gb438) := ⟨h7_⟩
    have n8_ : Aside0 (gb439 ≠ gb449) := ⟨h8_⟩
    have n9_ : Aside0 (gb449 ≠ gb439) := ⟨h9_⟩
    have n10_ : Aside0 (Below w.heap.size w w22) := ⟨h10_⟩
    clear BK438
    clear BK439
    clear HB
    clear h0_ h1_ h2_ h3_ h4_ h5_ h6_ h7_ h8_ h9_ h10_
    have HO445 := n0_
    have BK438 := n1_
    have BK439 := n2_
    have BK449 := n3_
    have GW449 := n4_
    have GE449 := n5_
    have NB438_449 := n6_
    have NB449_438 := n7_
    have NB439_449 := n8_
    have NB449_439 := n9_
    have HB := n10_
    clear n0_ n1_ n2_ n3_ n4_ n5_ n6_ n7_ n8_ n9_ n10_
    have hHeld : w22.cell? ⟨gb438, 0, none⟩ = some (.int .i64 a0_0) ∧ w22.cell? ⟨gb438, 1, none⟩ = some (.slice A0_1 l0_1.length c0_1) ∧ w22.cell? ⟨gb438, 2, none⟩ = some (.slice A0_2 l0_2.length c0_2) := hS_
    refine norm_ (a' := ?_) ?_ ?_
    rotate_left
    ·simp only [putAll, Act.put, List.setIfInBounds_toArray, List.set_cons_zero, List.set_cons_succ]
     rfl
    refine one_ (i := 6) (N := some 33) #[true, true, true, true, true, true, true, false, true, false] rfl rfl (one_of HT_.out (by kernel_rfl)) (by decide) (fun K hK => ?_)
    refine Kd.R_make_step (Kd.int .i64) _ 3 (by rfl) (N := 33) rfl 22 _ _ rfl (l1.length : Int) rfl rfl Try.underlying22 (.int .i64 0) 8 info3 rfl (by decide) (by omega) 0 (ok := fun _ => True) (okp := fun _ => True) rfl (fun _ hk => hk) trivial (of_decide_eq_true pD) (Nat.le_trans (Nat.mul_le_mul_right _ (of_decide_eq_true pD : (l1.length : Int).toNat ≤ 35184372088832)) (by omega)) (Below.refl _ _) (Nat.le_refl _) ?_
    intro v447 w23 ho24 hb hg_ hnew_
    clear hg_ hnew_
    (first | rw [← Ny446.out] at ho24 | (simp only [Int.reduceToNat] at ho24; rw [← Ny446.out] at ho24))
    have HO448 := aM (Kd.R_lower (Kd.R_new' ho24 (Kd.R_lt (pR HO445.out))) (below_size (qB3 HB GE438 GE439 GE449)))
    replace HO445 := eR HO445 ho24 hb
    replace BK438 := bK BK438 hb
    replace BK439 := bK BK439 hb
    replace BK449 := bK BK449 hb
    replace HB := bS (qB3 HB GE438 GE439 GE449) hb
    clear hb ho24
    obtain ⟨Ao25, co25, eo25⟩ := Kd.R_slice HO448.out
    (first | subst eo25 | (injection eo25 with f1_ f2_ f3_; have f4_ := f1_.symm; have f5_ := f3_.symm; clear f1_ f2_ f3_; subst f4_; subst f5_))
    obtain ⟨Ao26, co26, eo26⟩ := Kd.R_slice HO445.out
    (first | subst eo26 | (injection eo26 with f1_ f2_ f3_; have f4_ := f1_.symm; have f5_ := f3_.symm; clear f1_ f2_ f3_; subst f4_; subst f5_))
    refine hK.out _ _ ⟨(blk_cell BK438.out 0).trans rfl, (blk_cell BK438.out 1).trans rfl, (blk_cell BK438.out 2).trans rfl⟩ (fun hHeld => ?_)
    clear hK K
    refine norm_ (a' := ?_) ?_ ?_
    rotate_left
    ·show Act.put _ (some 33) _ = _
     simp only [Act.put, sP, i64_w, i32_w]
     rfl
    refine pP (i := 7) (N := some 34) #[true, true, true, true, true, true, true, true, true, false] rfl rfl HT_.out ?_
    exact norm_ (by first | (simp only [putAll, Act.put, List.setIfInBounds_toArray, List.set_cons_zero, List.set_cons_succ]; done) | (simp only [putAll, Act.put, List.setIfInBounds_toArray, List.set_cons_zero, List.set_cons_succ]; rfl)) (hJ3_6_8 (.slice Ao26 t443.length co26, .slice Ao25 y446.length co25, gb449) _ ⟨hHeld, (by (with_reducible repeat (first | apply rA | apply rN | apply rD)); exact Kd.R_mono HO445.out (fun _ hk => hk.2)), (by (with_reducible repeat (first | apply rA | apply rN | apply rD)); exact Kd.R_mono HO448.out (fun _ hk => hk.2)), (pK BK438.out), (pK BK439.out), (pK BK449.out), GW449.out, GE449.out, NB438_449.out, NB449_438.out, NB439_449.out, NB449_439.out, (qB3 HB GE438 GE439 GE449)⟩)
  ·skip
   rintro ⟨v444, v447⟩ w25 ⟨hS_, h0_, h1_, h2_, h3_, h4_⟩
   have n0_ : Aside0 (Kd.R (Kd.int .i64) 3 w25 w.heap.size (fun k_ => some k_ ≠ (v447 : Value).ownBlock) v444 t443) := ⟨h0_⟩
   have n1_ : Aside0 (Kd.R (Kd.int .i64) 3 w25 w.heap.size (fun k_ => some k_ ≠ (v444 : Value).ownBlock) v447 y446) := ⟨h1_⟩
   have n2_ : Aside0 (w25.heap[gb438]? = some (.cells #[.int .i64 a0_0, .slice A0_1 l0_1.length c0_1, .slice A0_2 l0_2.length c0_2] 24 (0, 0))) := ⟨h2_⟩
   have n3_ : Aside0 (w25.heap[gb439]? = some (.cells #[.int .i64 0, .slice none 0 0, .slice none 0 0] 24 (0, 0))) := ⟨h3_⟩
   have n4_ : Aside0 (Below w.heap.size w w25) := ⟨h4_⟩
   clear BK438
   clear BK439
   clear HB
   clear h0_ h1_ h2_ h3_ h4_
   have HO445 := n0_
   have HO448 := n1_
   have BK438 := n2_
   have BK439 := n3_
   have HB := n4_
   clear n0_ n1_ n2_ n3_ n4_
   have hHeld : w25.cell? ⟨gb438, 0, none⟩ = some (.int .i64 a0_0) ∧ w25.cell? ⟨gb438, 1, none⟩ = some (.slice A0_1 l0_1.length c0_1) ∧ w25.cell? ⟨gb438, 2, none⟩ = some (.slice A0_2 l0_2.length c0_2) := hS_
   obtain ⟨Ao26, co26, eo26⟩ := Kd.R_slice HO448.out
   (first | subst eo26 | (injection eo26 with f1_ f2_ f3_; have f4_ := f1_.symm; have f5_ := f3_.symm; clear f1_ f2_ f3_; subst f4_; subst f5_))
   obtain ⟨Ao27, co27, eo27⟩ := Kd.R_slice HO445.out
   (first | subst eo27 | (injection eo27 with f1_ f2_ f3_; have f4_ := f1_.symm; have f5_ := f3_.symm; clear f1_ f2_ f3_; subst f4_; subst f5_))
   refine norm_ (a' := ?_) ?_ ?_
   rotate_left
   ·simp only [putAll, Act.put, List.setIfInBounds_toArray, List.set_cons_zero, List.set_cons_succ]
    rfl
   refine one_ (i := 8) (N := some 7) #[true, true, true, true, true, true, true, true, true, false] rfl rfl (one_of HT_.out (by kernel_rfl)) (by decide) (fun K hK => ?_)
   refine box_step ?hg (N := 7) ?hd (cs := #[.int .i64 0, .slice none 0 0, .slice none 0 0]) (t := 24) ?hr ?_; (case hd => rfl); (case hg => rfl); (case hr => first | (go_simp; done) | (go_simp; rfl))
   intro gb449 hg w28 hbox hb
   replace HO445 := bR HO445 hb
   replace HO448 := bR HO448 hb
   have BK449 := aM (hbox)
   have GW449 := gE (w := w) hg (qB2 HB GE438 GE439)
   have GE449 := GW449
   replace HB := bS (qB2 HB GE438 GE439) hb
   have NB438_449 := nL hg BK438
   have NB449_438 := nG hg BK438
   replace BK438 := bK BK438 hb
   have NB439_449 := nL hg BK439
   have NB449_439 := nG hg BK439
   replace BK439 := bK BK439 hb
   clear hb hbox hg
   refine hK.out _ _ ⟨(blk_cell BK438.out 0).trans rfl, (blk_cell BK438.out 1).trans rfl, (blk_cell BK438.out 2).trans rfl⟩ (fun hHeld => ?_)
   clear hK K
   refine norm_ (a' := ?_) ?_ ?_
   rotate_left
   ·show Act.put _ (some 7) _ = _
    simp only [Act.put, sP, i64_w, i32_w]
    rfl
   exact norm_ (by first | (simp only [putAll, Act.put, List.setIfInBounds_toArray, List.set_cons_zero, List.set_cons_succ]; done) | (simp only [putAll, Act.put, List.setIfInBounds_toArray, List.set_cons_zero, List.set_cons_succ]; rfl)) (hJ3_6_8 (.slice Ao27 t443.length co27, .slice Ao26 y446.length co26, gb449) _ ⟨hHeld, (pR HO445.out), (pR HO448.out), (pK BK438.out), (pK BK439.out), (pK BK449.out), GW449.out, GE449.out, NB438_449.out, NB449_438.out, NB439_449.out, NB449_439.out, (qB3 HB GE438 GE439 GE449)⟩)
 rintro ⟨v444, v447, gb449⟩ w26 ⟨hS_, h0_, h1_, h2_, h3_, h4_, h5_, h6_, h7_, h8_, h9_, h10_, h11_⟩
 have n0_ : Aside0 (Kd.R (Kd.int .i64) 3 w26 w.heap.size (fun k_ => some k_ ≠ (v447 : Value).ownBlock) v444 t443) := ⟨h0_⟩
 have n1_ : Aside0 (Kd.R (Kd.int .i64) 3 w26 w.heap.size (fun k_ => some k_ ≠ (v444 : Value).ownBlock) v447 y446) := ⟨h1_⟩
 have n2_ : Aside0 (w26.heap[gb438]? = some (.cells #[.int .i64 a0_0, .slice A0_1 l0_1.length c0_1, .slice A0_2 l0_2.length c0_2] 24 (0, 0))) := ⟨h2_⟩
 have n3_ : Aside0 (w26.heap[gb439]? = some (.cells #[.int .i64 0, .slice none 0 0, .slice none 0 0] 24 (0, 0))) := ⟨h3_⟩
 have n4_ : Aside0 (w26.heap[gb449]? = some (.cells #[.int .i64 0, .slice none 0 0, .slice none 0 0] 24 (0, 0))) := ⟨h4_⟩
 have n5_ : Aside0 (w.heap.size ≤ gb449) := ⟨h5_⟩
 have n6_ : Aside0 (w.heap.size ≤ gb449) := ⟨h6_⟩
 have n7_ : Aside0 (gb438 ≠ gb449) := ⟨h7_⟩
 have n8_ : Aside0 (gb449 ≠ gb438) := ⟨h8_⟩
 have n9_ : Aside0 (gb439 ≠ gb449) := ⟨h9_⟩
 have n10_ : Aside0 (gb449 ≠ gb439) := ⟨h10_⟩
 have n11_ : Aside0 (Below w.heap.size w w26) := ⟨h11_⟩
 clear BK438
 clear BK439
 clear HB
 clear h0_ h1_ h2_ h3_ h4_ h5_ h6_ h7_ h8_ h9_ h10_ h11_
 have HO445 := n0_
 have HO448 := n1_
 have BK438 := n2_
 have BK439 := n3_
 have BK449 := n4_
 have GW449 := n5_
 have GE449 := n6_
 have NB438_449 := n7_
 have NB449_438 := n8_
 have NB439_449 := n9_
 have NB449_439 := n10_
 have HB := n11_
 clear n0_ n1_ n2_ n3_ n4_ n5_ n6_ n7_ n8_ n9_ n10_ n11_
 have hHeld : w26.cell? ⟨gb438, 0, none⟩ = some (.int .i64 a0_0) ∧ w26.cell? ⟨gb438, 1, none⟩ = some (.slice A0_1 l0_1.length c0_1) ∧ w26.cell? ⟨gb438, 2, none⟩ = some (.slice A0_2 l0_2.length c0_2) := hS_
 obtain ⟨Ao27, co27, eo27⟩ := Kd.R_slice HO448.out
 (first | subst eo27 | (injection eo27 with f1_ f2_ f3_; have f4_ := f1_.symm; have f5_ := f3_.symm; clear f1_ f2_ f3_; subst f4_; subst f5_))
 obtain ⟨Ao28, co28, eo28⟩ := Kd.R_slice HO445.out
 (first | subst eo28 | (injection eo28 with f1_ f2_ f3_; have f4_ := f1_.symm; have f5_ := f3_.symm; clear f1_ f2_ f3_; subst f4_; subst f5_))
 refine norm_ (a' := ?_) ?_ ?_
 rotate_left
 ·simp only [putAll, Act.put, List.setIfInBounds_toArray, List.set_cons_zero, List.set_cons_succ]
  rfl
 refine one_ (i := 9) (N := none) #[true, true, true, true, true, true, true, true, true, true] rfl rfl (one_of HT_.out (by kernel_rfl)) (by decide) (fun K hK => ?_)
 have hs29 : w26.cell? ⟨gb449, 0, none⟩ = some (.int .i64 0) := (blk_cell BK449.out 0).trans rfl
 have hfs29 := blk_frozen BK449.out 0
 have hns29_0 := NB438_449.out
 have hns29_1 := NB439_449.out
 have hms29_0 := NB449_438.out
 have hms29_1 := NB449_439.out
 have hs30 : w26.cell? ⟨gb449, 1, none⟩ = some (.slice none 0 0) := (blk_cell BK449.out 1).trans rfl
 have hfs30 := blk_frozen BK449.out 1
 have hns30_0 := NB438_449.out
 have hns30_1 := NB439_449.out
 have hms30_0 := NB449_438.out
 have hms30_1 := NB449_439.out
 have hs31 : w26.cell? ⟨gb449, 2, none⟩ = some (.slice none 0 0) := (blk_cell BK449.out 2).trans rfl
 have hfs31 := blk_frozen BK449.out 2
 have hns31_0 := NB438_449.out
 have hns31_1 := NB439_449.out
 have hms31_0 := NB449_438.out
 have hms31_1 := NB449_439.out
 refine skip_ (w1 := ?_) (by rfl) rfl ?_ ?_
 rotate_left
 ·go_simp
  rfl
 refine hK.out _ _ ⟨((cell_far (p := ⟨gb449, _, none⟩) NB438_449.out _).trans (((cell_far (p := ⟨gb449, _, none⟩) NB438_449.out _).trans (((cell_far (p := ⟨gb449, _, none⟩) NB438_449.out _).trans (hHeld.1)))))), ((cell_far (p := ⟨gb449, _, none⟩) NB438_449.out _).trans (((cell_far (p := ⟨gb449, _, none⟩) NB438_449.out _).trans (((cell_far (p := ⟨gb449, _, none⟩) NB438_449.out _).trans (hHeld.2.1)))))), ((cell_far (p := ⟨gb449, _, none⟩) NB438_449.out _).trans (((cell_far (p := ⟨gb449, _, none⟩) NB438_449.out _).trans (((cell_far (p := ⟨gb449, _, none⟩) NB438_449.out _).trans (hHeld.2.2))))))⟩ (fun hHeld => ?_)
 clear hK K
 refine done_ (done_of HT_.out (by kernel_rfl)) ?_
 have hnb32 := NB438_449.out
 have hnc32 := NB449_438.out
 obtain ⟨hcz33_0, hcz33_1, hcz33_2, hfz33_0, hfz33_1, hfz33_2⟩ := blk3 BK438.out
 try go_wp2
 go_loopg [44] k (fun kq v44 w' => ∃ (x44_1 : Int) (x450001_1 : List Int) (x450002_1 : List Int) (u450001 : Value) (u450002 : Value), v44 = .int .i64 x44_1 ∧ Aside0 (view_Expand.l0 kq (wrap64 ((l1.length : Int) - (l0_1.length : Int))) l0_1 (l0_1.length : Int) x44_1 a0_0 l0_1 l0_2 a0_0 x450001_1 x450002_1 = some (r1, r2, r3, r4)) ∧ Aside0 (kq ≤ k) ∧ Aside0 (Kd.R (Kd.int .i64) 3 w' w.heap.size (fun k_ => some k_ ≠ (u450002 : Value).ownBlock) u450001 x450001_1) ∧ Aside0 (Kd.R (Kd.int .i64) 3 w' w.heap.size (fun k_ => some k_ ≠ (u450001 : Value).ownBlock) u450002 x450002_1) ∧ Aside0 (w'.heap[gb438]? = some (.cells #[.int .i64 a0_0, (.slice A0_1 l0_1.length c0_1), (.slice A0_2 l0_2.length c0_2)] 24 (0, 0))) ∧ Aside0 (w'.heap[gb439]? = some (.cells #[.int .i64 0, (.slice none 0 0), (.slice none 0 0)] 24 (0, 0))) ∧ Aside0 (w'.heap[gb449]? = some (.cells #[.int .i64 a0_0, u450001, u450002] 24 (0, 0))) ∧ Aside0 (Below w.heap.size w w'))
 case atStart => exact ⟨(0), (t443), (y446), (.slice Ao28 t443.length co28), (.slice Ao27 y446.length co27), (pF), H', ⟨Nat.le_refl _⟩, ⟨by (with_reducible repeat (first | apply rA | apply rN | apply rD)); exact F3 HO445 BK449 (fun _ hk => hk.1)⟩, ⟨by (with_reducible repeat (first | apply rA | apply rN | apply rD)); exact F3 HO448 BK449 (fun _ hk => hk.1)⟩, ⟨by refine B3 NB438_449 ?_; exact BK438.out⟩, ⟨by refine B3 NB439_449 ?_; exact BK439.out⟩, ⟨by exact P3 BK449⟩, ⟨qB3 HB GE438 GE439 GE449⟩⟩
 case round =>
  clear H'
  try clear c1
  try clear c4
  try clear hcz33_0 hcz33_1 hcz33_2 hfz33_0 hfz33_1 hfz33_2
  obtain ⟨x44_1, x450001_1, x450002_1, u450001, u450002, rfl, HA, HK1, HO_450001, HO_450002, BK438, BK439, BK449, HB⟩ := hrel
  cases gk with
  | zero => exact absurd HA.out (by simp [view_Expand.l0])
  | succ k1 =>
   have H := HA.out
   clear HA
   simp only [view_Expand.l0] at H
   by_cases c34 : x44_1 < (l0_1.length : Int)
   rotate_left
   ·rw [if_neg c34] at H
    have c34b0 : decide (x44_1 < (l0_1.length : Int)) = false := decide_eq_false c34
    clear c34
    simp only [Option.some.injEq, Prod.mk.injEq] at H
    obtain ⟨rfl, rfl, rfl, rfl⟩ := H
    have hnb45 := NB449_438.out
    have hnc45 := NB438_449.out
    have hnb46 := NB449_439.out
    have hnc46 := NB439_449.out
    obtain ⟨hcz47_0, hcz47_1, hcz47_2, hfz47_0, hfz47_1, hfz47_2⟩ := blk3 BK449.out
    have hnb48 := NB439_438.out
    have hnc48 := NB438_439.out
    obtain ⟨hcz49_0, hcz49_1, hcz49_2, hfz49_0, hfz49_1, hfz49_2⟩ := blk3 BK439.out
    obtain ⟨Ao50, co50, eo50⟩ := Kd.R_slice HO_450001.out
    subst eo50
    obtain ⟨Ao51, co51, eo51⟩ := Kd.R_slice HO_450002.out
    subst eo51
    go_wp2
    refine bodyPost_ret (results_ct rfl _ _ gb439 24 #[.int .i64 a0_0, .slice Ao50 x450001_1.length co50, .slice Ao51 x450002_1.length co51] (0, 0) _ rfl (by exact P3 BK439) Try.underlying24 rfl (by kernel_rfl)) rfl ?_
    exact ⟨_, _, pE, by (with_reducible repeat (first | apply rA | apply rN | apply rD)); exact F3 HO_450001 BK439 (fun _ hk => hk.1), by (with_reducible repeat (first | apply rA | apply rN | apply rD)); exact F3 HO_450002 BK439 (fun _ hk => hk.1), qB3 HB GE438 GE439 GE449⟩
   rw [if_pos c34] at H
   have c34b0 : decide (x44_1 < (l0_1.length : Int)) = true := decide_eq_true c34
   clear c34
   by_cases c35 : 0 ≤ x44_1
   rotate_left
   ·rw [if_neg c35] at H
    exact absurd H (by simp)
   rw [if_pos c35] at H
   have c35b0 : decide (0 ≤ x44_1) = true := decide_eq_true c35
   clear c35
   by_cases c36 : x44_1 < (l0_1.length : Int)
   rotate_left
   ·rw [if_neg c36] at H
    exact absurd H (by simp)
   rw [if_pos c36] at H
   have c36b0 : decide (x44_1 < (l0_1.length : Int)) = true := decide_eq_true c36
   clear c36
   by_cases c37 : (rd l0_1 x44_1) > 1
   rotate_left
   ·rw [if_neg c37] at H
    have c37b0 : decide (1 < (rd l0_1 x44_1)) = false := decide_eq_false c37
    clear c37
    have H' := aM H
    clear H
    have p450 : 0 ≤ (x44_1 : Int) := of_decide_eq_true pD
    have q450 : x44_1 < (l0_1.length : Int) := of_decide_eq_true pD
    obtain ⟨ad450, e450, hx450_0⟩ := Kd.at_int HR0_1.out x44_1 p450 q450
    cases e450
    replace hx450_0 := (HB.out.cell (World.block_lt_of_cell? w _ hx450_0)).trans hx450_0
    replace p450 := eq_true p450
    replace q450 := eq_true q450
    go_wp2
    go_roundg k1
    case measure => have := HK1.out; omega
    case rel => exact ⟨(wrap64 (x44_1 + 1)), (x450001_1), (x450002_1), (u450001), (u450002), (pF), H', ⟨by have := HK1.out; omega⟩, ⟨pR HO_450001.out⟩, ⟨pR HO_450002.out⟩, ⟨by (with_reducible repeat (first | apply bN | apply bD | apply bA)); exact BK438.out⟩, ⟨by (with_reducible repeat (first | apply bN | apply bD | apply bA)); exact BK439.out⟩, ⟨by (with_reducible repeat (first | apply bN | apply bD | apply bA)); exact BK449.out⟩, ⟨qB3 HB GE438 GE439 GE449⟩⟩
   rw [if_pos c37] at H
   have c37b0 : decide (1 < (rd l0_1 x44_1)) = true := decide_eq_true c37
   clear c37
   by_cases c38 : x44_1 < (l0_2.length : Int)
   rotate_left
   ·rw [if_neg c38] at H
    exact absurd H (by simp)
   rw [if_pos c38] at H
   have c38b0 : decide (x44_1 < (l0_2.length : Int)) = true := decide_eq_true c38
   clear c38
   obtain ⟨ji39, hji39⟩ : ∃ j_ : Int, (wrap64 ((wrap64 ((l1.length : Int) - (l0_1.length : Int))) + x44_1)) = j_ := ⟨_, rfl⟩
   replace H : (if 0 ≤ (ji39) then (if (ji39) < (x450002_1.length : Int) then (view_Expand.l0 k1 (wrap64 ((l1.length : Int) - (l0_1.length : Int))) l0_1 (l0_1.length : Int) (wrap64 (x44_1 + 1)) a0_0 l0_1 l0_2 a0_0 x450001_1 (x450002_1.set ((ji39) : Int).toNat (rd l0_2 x44_1))) else (none)) else (none)) = some (r1, r2, r3, r4) := by first | (rw [hji39] at H; exact H) | (simp only [hji39] at H ⊢; exact H)
   have hji39w : (IntKind.i64.wrap ((wrap64 ((l1.length : Int) - (l0_1.length : Int))) + x44_1)) = ji39 := (i64_w _).trans hji39
   by_cases c40 : 0 ≤ (ji39)
   rotate_left
   ·rw [if_neg c40] at H
    exact absurd H (by simp)
   rw [if_pos c40] at H
   have c40b0 : decide (0 ≤ (ji39)) = true := decide_eq_true c40
   clear c40
   by_cases c41 : (ji39) < (x450002_1.length : Int)
   rotate_left
   ·rw [if_neg c41] at H
    exact absurd H (by simp)
   rw [if_pos c41] at H
   have c41b0 : decide ((ji39) < (x450002_1.length : Int)) = true := decide_eq_true c41
   clear c41
   obtain ⟨y452, hy452⟩ : ∃ y_ : List Int, y_ = (x450002_1.set ((ji39) : Int).toNat (rd l0_2 x44_1)) := ⟨_, rfl⟩
   replace H : (view_Expand.l0 k1 (wrap64 ((l1.length : Int) - (l0_1.length : Int))) l0_1 (l0_1.length : Int) (wrap64 (x44_1 + 1)) a0_0 l0_1 l0_2 a0_0 x450001_1 y452) = some (r1, r2, r3, r4) := pH hy452 H
   have Ny452 := aM hy452
   clear hy452
   have H' := aM H
   clear H
   have p450 : 0 ≤ (x44_1 : Int) := of_decide_eq_true pD
   have q450 : x44_1 < (l0_1.length : Int) := of_decide_eq_true pD
   obtain ⟨ad450, e450, hx450_0⟩ := Kd.at_int HR0_1.out x44_1 p450 q450
   cases e450
   replace hx450_0 := (HB.out.cell (World.block_lt_of_cell? w _ hx450_0)).trans hx450_0
   replace p450 := eq_true p450
   replace q450 := eq_true q450
   try go_wp2
   replace HO_450001 := aM (Kd.R_drew HO_450001.out)
   replace HO_450002 := aM (Kd.R_drew HO_450002.out)
   replace BK438 := aM (blk_drew BK438.out)
   replace BK439 := aM (blk_drew BK439.out)
   replace BK449 := aM (blk_drew BK449.out)
   replace HB := aM (below_drew1 HB.out)
   have p451 : 0 ≤ (x44_1 : Int) := of_decide_eq_true pD
   have q451 : x44_1 < (l0_2.length : Int) := of_decide_eq_true pD
   obtain ⟨ad451, e451, hx451_0⟩ := Kd.at_int HR0_2.out x44_1 p451 q451
   have hw451_0 := hx451_0
   cases e451
   replace hx451_0 := (HB.out.cell (World.block_lt_of_cell? w _ hx451_0)).trans hx451_0
   replace p451 := eq_true p451
   replace q451 := eq_true q451
   have p42 : 0 ≤ ((ji39) : Int) := of_decide_eq_true pD
   have q42 : ((ji39) : Int) < ((x450002_1.length : Int) : Int) := of_decide_eq_true pD
   obtain ⟨go42, co42, eo42, gb42, gl42, cl42, HG42⟩ := Kd.R_form HO_450002.out (by omega)
   (first | cases eo42 | (injection eo42 with ea_ en_ ec_; (first | subst ea_ | (injection ea_ with ea_; subst ea_)); subst ec_; clear en_))
   have GB42 := aM gb42
   have GG42 := aM HG42
   clear gb42 gl42 HG42
   obtain ⟨hx42_0, hf42_0⟩ := Kd.R_celln 0 HO_450002.out ((ji39) : Int) p42 q42
   replace p42 := eq_true p42
   replace q42 := eq_true q42
   have HP44 := Kd.R_putn HO_450002.out ((ji39) : Int) (rd l0_2 x44_1)
   rw [← Ny452.out] at HP44
   have HQ44 := aM HP44
   clear HP44
   refine start_ (n := 12) (S := fun w' => w'.cell? ⟨gb449, 0, none⟩ = some (.int .i64 a0_0) ∧ w'.cell? ⟨gb449, 1, none⟩ = some (u450001) ∧ w'.cell? ⟨gb449, 2, none⟩ = some (.slice (some ⟨go42, 0, none⟩) x450002_1.length co42) ∧ w'.cell? ⟨gb438, 0, none⟩ = some (.int .i64 a0_0) ∧ w'.cell? ⟨gb438, 1, none⟩ = some (.slice (some ad450) l0_1.length c0_1) ∧ w'.cell? ⟨gb438, 2, none⟩ = some (.slice (some ad451) l0_2.length c0_2) ∧ w'.cell? (ad451.add (x44_1).toNat) = some (.int .i64 (rd l0_2 x44_1))) (ds := [11]) #[false, false, false, false, false, false, false, false, false, false, false, false] (by kernel_rfl) rfl rfl ⟨(blk_cell BK449.out 0).trans rfl, (blk_cell BK449.out 1).trans rfl, (blk_cell BK449.out 2).trans rfl, (blk_cell BK438.out 0).trans rfl, (blk_cell BK438.out 1).trans rfl, (blk_cell BK438.out 2).trans rfl, ((HB.out.cell (World.block_lt_of_cell? w _ hw451_0)).trans hw451_0)⟩ (fun hHeld => ?_); refine with_tabW view_Expand.tab14 view_Expand.bits14 (fun HT_ HW_ => ?_)
   generalize wr.drew = w43 at HO_450001 HO_450002 BK438 BK439 BK449 HB GG42 HQ44 hf42_0 hx42_0 hx451_0 hHeld ⊢
   refine pP (i := 0) (N := some 51) #[true, false, false, false, false, false, false, false, false, false, false, false] rfl rfl HT_.out ?_
   refine pP (i := 2) (N := some 53) #[true, false, true, false, false, false, false, false, false, false, false, false] rfl rfl HT_.out ?_
   refine pP (i := 3) (N := some 54) #[true, false, true, true, false, false, false, false, false, false, false, false] rfl rfl HT_.out ?_
   refine pP (i := 4) (N := some 55) #[true, false, true, true, true, false, false, false, false, false, false, false] rfl rfl HT_.out ?_
   refine pP (i := 5) (N := some 56) #[true, false, true, true, true, true, false, false, false, false, false, false] rfl rfl HT_.out ?_
   refine pP (i := 7) (N := some 58) #[true, false, true, true, true, true, false, true, false, false, false, false] rfl rfl HT_.out ?_
   refine pT (i := 1) (N := some 52) #[true, true, true, true, true, true, false, true, false, false, false, false] rfl rfl HT_.out HW_.out hHeld (by rintro w' ⟨s0, s1, s2, s3, s4, s5, s6⟩; go_simp; with_reducible rfl) ?_
   refine pT (i := 6) (N := some 57) #[true, true, true, true, true, true, true, true, false, false, false, false] rfl rfl HT_.out HW_.out hHeld (by rintro w' ⟨s0, s1, s2, s3, s4, s5, s6⟩; go_simp; with_reducible rfl) ?_
   refine pP (i := 8) (N := some 59) #[true, true, true, true, true, true, true, true, true, false, false, false] rfl rfl HT_.out ?_
   refine pT (i := 9) (N := some 60) #[true, true, true, true, true, true, true, true, true, true, false, false] rfl rfl HT_.out HW_.out hHeld (by rintro w' ⟨s0, s1, s2, s3, s4, s5, s6⟩; go_simp; with_reducible rfl) ?_
   refine pP (i := 10) (N := some 61) #[true, true, true, true, true, true, true, true, true, true, true, false] rfl rfl HT_.out ?_
   refine last_ (i := 11) (N := none) #[true, true, true, true, true, true, true, true, true, true, true, true] rfl rfl (one_of HT_.out (by kernel_rfl)) (by decide) (fun K hK => ?_)
   refine skip_ (w1 := ?_) (by rfl) rfl ?_ ?_
   rotate_left
   ·go_simp
    rfl
   refine hK.out _ _ ?_
   clear hK K
   refine done_ (done_of HT_.out (by kernel_rfl)) ?_
   try go_wp2
   go_roundg k1
   case measure => have := HK1.out; omega
   case rel => exact ⟨(wrap64 (x44_1 + 1)), (x450001_1), (y452), (u450001), (.slice (some ⟨go42, 0, none⟩) x450002_1.length co42), (pF), H', ⟨by have := HK1.out; omega⟩, ⟨by (with_reducible repeat (first | apply rA | apply rN | apply rD)); exact Kd.R_mono (Kd.R_far (p := ⟨go42, ((ji39) : Int).toNat, none⟩) (Kd.R_mono HO_450001.out (fun k_ hk => (⟨hk, fun e_ => hk (by rw [e_]; rfl)⟩ : _ ∧ k_ ≠ go42))) (fun _ hk => hk.2) (.int .i64 (rd l0_2 x44_1))) (fun _ hk => hk.1)⟩, ⟨pR HQ44.out⟩, ⟨by (with_reducible repeat (first | apply bN | apply bD | apply bA)); refine blk_far ?_ (by have h_ := Kd.R_ne HO_450002.out BK438.out (by decide); intro e_; exact h_ (by rw [e_]; rfl)) _; (with_reducible repeat (first | apply bN | apply bD | apply bA)); exact BK438.out⟩, ⟨by (with_reducible repeat (first | apply bN | apply bD | apply bA)); refine blk_far ?_ (by have h_ := Kd.R_ne HO_450002.out BK439.out (by decide); intro e_; exact h_ (by rw [e_]; rfl)) _; (with_reducible repeat (first | apply bN | apply bD | apply bA)); exact BK439.out⟩, ⟨by (with_reducible repeat (first | apply bN | apply bD | apply bA)); refine blk_far ?_ (by have h_ := Kd.R_ne HO_450002.out BK449.out (by decide); intro e_; exact h_ (by rw [e_]; rfl)) _; (with_reducible repeat (first | apply bN | apply bD | apply bA)); exact BK449.out⟩, ⟨qB4 HB GB42 GE438 GE439 GE449⟩⟩
def view_Flip.j0 : Nat → Int → Bool → Int → List Int → List Int → Option (Int × List Int × List Int × Int)
 | 0, _, _, _, _, _ => none
 | k + 1, x1, x20, x330000, x330001, x330002 => if x20 = true then (some (0, ([] : List Int), ([] : List Int), 10)) else ((view_copied.f x330000 x330001 x330002).bind fun bt332 => (if 0 ≤ x1 then (if x1 < (x330001.length : Int) then (if (rd x330001 x1) > 1 then (if x1 < (x330002.length : Int) then (if x1 < (bt332.2.2.length : Int) then (some (wrap64 (bt332.1 + (wrap64 ((wrap64 ((rd x330001 x1) - 1)) * (rd x330002 x1)))), bt332.2.1, (bt332.2.2.set (x1 : Int).toNat (wrap64 (-(rd x330002 x1)))), 0)) else (none)) else (none)) else (some (bt332.1, bt332.2.1, bt332.2.2, 0))) else (none)) else (none)))
def view_Flip.f (k : Nat) (a0_0 : Int) (l0_1 : List Int) (l0_2 : List Int) (a1 : Int) : Option (Int × List Int × List Int × Int) := (view_right.f k a0_0 l0_1 l0_2).bind fun t331 => (if t331 = true then (if a1 < 0 then (view_Flip.j0 k a1 true a0_0 l0_1 l0_2) else (view_Flip.j0 k a1 (decide (a1 ≥ (l0_1.length : Int))) a0_0 l0_1 l0_2)) else (some (0, ([] : List Int), ([] : List Int), 1)))
def view_Flip.T8 : Bool × List (List Nat × List Nat) := (true, [([], []), ([0], [0]), ([], []), ([2], [2]), ([], []), ([4], [4]), ([], []), ([5, 6], [5, 6]), ([7], [7]), ([3, 8], [3, 8]), ([1, 9], [1, 9]), ([0, 1, 2, 3, 4, 5, 6, 7, 8, 9, 10], []), ([11, 10, 0, 1, 2, 3, 4, 5, 6, 7, 8, 9, 10], [10, 11])])
def view_Flip.B8 : List Nat := [0, 1, 0, 4, 0, 16, 0, 112, 240, 508, 1023, 2047, 4095]
theorem view_Flip.tab8 : rtab .any (opsOf Try.f19 8) = view_Flip.T8 := by kernel_rfl
theorem view_Flip.bits8 : waitsOk view_Flip.T8.2 view_Flip.B8 = true := by kernel_rfl
def view_Flip.T9 : Bool × List (List Nat × List Nat) := (true, [([], []), ([0], [0]), ([], []), ([], []), ([3], [3]), ([], []), ([4, 5], [4, 5]), ([6], [6]), ([7], [7]), ([1, 2, 0, 1, 2, 3, 4, 5, 6, 7, 8], [1, 2]), ([9, 8, 0, 1, 2, 3, 4, 5, 6, 7, 8], [8, 9])])
def view_Flip.B9 : List Nat := [0, 1, 0, 0, 8, 0, 56, 120, 248, 511, 1023]
theorem view_Flip.tab9 : rtab .any (opsOf Try.f19 9) = view_Flip.T9 := by kernel_rfl
theorem view_Flip.bits9 : waitsOk view_Flip.T9.2 view_Flip.B9 = true := by kernel_rfl
set_option maxHeartbeats 8000000 in
set_option maxRecDepth 100000 in
theorem view_Flip.calls (k : Nat) (a0_0 : Int) (A0_1 : Option Addr) (c0_1 : Nat) (l0_1 : List Int) (A0_2 : Option Addr) (c0_2 : Nat) (l0_2 : List Int) (a1 : Int) (r1 : Int) (r2 : List Int) (r3 : List Int) (r4 : Int) (w : World) (hr0_1 : Kd.C (Kd.int .i64) w A0_1 l0_1.length l0_1) (hc0_1 : l0_1.length ≤ c0_1) (hr0_2 : Kd.C (Kd.int .i64) w A0_2 l0_2.length l0_2) (hc0_2 : l0_2.length ≤ c0_2) (h : view_Flip.f k a0_0 l0_1 l0_2 a1 = some (r1, r2, r3, r4)) :
  Calls Try.prog 19 #[.agg #[.int .i64 a0_0, .slice A0_1 l0_1.length c0_1, .slice A0_2 l0_2.length c0_2], .int .i64 a1] w fun e w' => ∃ v1_ v2_ : Value, e = .returned (.tuple #[.agg #[.int .i64 r1, v1_, v2_], .int .i64 r4]) ∧ Kd.R (Kd.int .i64) 3 w' w.heap.size (fun k_ => some k_ ≠ (v2_ : Value).ownBlock) v1_ r2 ∧ Kd.R (Kd.int .i64) 3 w' w.heap.size (fun k_ => some k_ ≠ (v1_ : Value).ownBlock) v2_ r3 ∧ Below w.heap.size w w' := by
 have hu24 := Try.underlying24
 have HR0_1 := aM hr0_1
 have HC0_1 := aM hc0_1
 clear hr0_1 hc0_1
 have HR0_2 := aM hr0_2
 have HC0_2 := aM hc0_2
 clear hr0_2 hc0_2
 have HB := aM (Below.refl w.heap.size w)
 have H : ((view_right.f k a0_0 l0_1 l0_2).bind fun t331 => (if t331 = true then (if a1 < 0 then (view_Flip.j0 k a1 true a0_0 l0_1 l0_2) else (view_Flip.j0 k a1 (decide (a1 ≥ (l0_1.length : Int))) a0_0 l0_1 l0_2)) else (some (0, ([] : List Int), ([] : List Int), 1)))) = some (r1, r2, r3, r4) := h
 clear h
 replace H := Option.bind_eq_some_iff.mp H
 obtain ⟨t331, A30, H⟩ := H
 try dsimp only at H
 have A3 := aM A30
 clear A30
 by_cases c4 : t331 = true
 rotate_left
 ·replace c4 := Bool.eq_false_iff.mpr c4
  subst c4
  rw [if_neg (show ¬ (false = true) by decide)] at H
  simp only [Option.some.injEq, Prod.mk.injEq] at H
  obtain ⟨rfl, rfl, rfl, rfl⟩ := H
  go_enter Try.func19, Try.ntmps19
  go_wp2_with (first | ((with_reducible refine gate_dst (N := 2) rfl ?_); (try (refine gate_guard (by rfl) ?_; dsimp only)); refine box_event ?hg (N := 2) ?hd (cs := #[.int .i64 a0_0, .slice A0_1 l0_1.length c0_1, .slice A0_2 l0_2.length c0_2]) (t := 24) ?hr ?_; (case hd => rfl); (case hg => rfl); (case hr => first | (go_simp; done) | (go_simp; rfl)); intro gb329 hg w54 hbox hb; have BK329 := aM (hbox); have GW329 := gE (w := w) hg (qB HB); have GE329 := GW329; replace HB := bS (qB HB) hb; clear hb hbox hg) | ((with_reducible refine gate_dst (N := 4) rfl ?_); (try (refine gate_guard (by rfl) ?_; dsimp only)); refine box_event ?hg (N := 4) ?hd (cs := #[.int .i64 0, .slice none 0 0, .slice none 0 0]) (t := 24) ?hr ?_; (case hd => rfl); (case hg => rfl); (case hr => first | (go_simp; done) | (go_simp; rfl)); intro gb330 hg w55 hbox hb; have BK330 := aM (hbox); have GW330 := gE (w := w) hg (qB1 HB GE329); have GE330 := GW330; replace HB := bS (qB1 HB GE329) hb; have NB329_330 := nL hg BK329; have NB330_329 := nG hg BK329; replace BK329 := bK BK329 hb; clear hb hbox hg; have hnb56 := NB329_330.out; have hnc56 := NB330_329.out; obtain ⟨hcz57_0, hcz57_1, hcz57_2, hfz57_0, hfz57_1, hfz57_2⟩ := blk3 BK329.out) | ((with_reducible refine gate_callee (f := 39) rfl ?_); refine goesL_ (some 9) rfl rfl Try.func39 (by kernel_rfl) rfl #[.agg #[.int .i64 a0_0, .slice A0_1 l0_1.length c0_1, .slice A0_2 l0_2.length c0_2]] rfl pA ?_; (with_reducible refine (view_right.calls k a0_0 _ _ l0_1 _ _ l0_2 false _ ?s1 ?s2 ?s3 ?s4 A3.out).mono ?_); (case s1 => exact sC HR0_1 HB); (case s2 => exact HC0_1.out); (case s3 => exact sC HR0_2 HB); (case s4 => exact HC0_2.out); rintro e w58 ⟨rfl, hb⟩; refine ⟨_, rfl, ?_⟩; replace BK329 := bK BK329 hb; replace BK330 := bK BK330 hb; replace HB := bS (qB2 HB GE329 GE330) hb; (try clear hb); (try clear hk); (try clear hi); obtain ⟨hcz59_0, hcz59_1, hcz59_2, hfz59_0, hfz59_1, hfz59_2⟩ := blk3 BK330.out))
  refine bodyPost_ret (results_ct rfl _ _ gb330 24 #[.int .i64 0, .slice none 0 0, .slice none 0 0] (0, 0) _ rfl (by exact P3 BK330) Try.underlying24 rfl (by kernel_rfl)) rfl ?_
  exact ⟨_, _, pE, pN, pN, qB2 HB GE329 GE330⟩
 subst c4
 rw [if_pos rfl] at H
 have HC5 := aM H
 clear H
 go_enter Try.func19, Try.ntmps19
 go_upto_region 3 with (first | ((with_reducible refine gate_dst (N := 2) rfl ?_); (try (refine gate_guard (by rfl) ?_; dsimp only)); refine box_event ?hg (N := 2) ?hd (cs := #[.int .i64 a0_0, .slice A0_1 l0_1.length c0_1, .slice A0_2 l0_2.length c0_2]) (t := 24) ?hr ?_; (case hd => rfl); (case hg => rfl); (case hr => first | (go_simp; done) | (go_simp; rfl)); intro gb329 hg w6 hbox hb; have BK329 := aM (hbox); have GW329 := gE (w := w) hg (qB HB); have GE329 := GW329; replace HB := bS (qB HB) hb; clear hb hbox hg) | ((with_reducible refine gate_dst (N := 4) rfl ?_); (try (refine gate_guard (by rfl) ?_; dsimp only)); refine box_event ?hg (N := 4) ?hd (cs := #[.int .i64 0, .slice none 0 0, .slice none 0 0]) (t := 24) ?hr ?_; (case hd => rfl); (case hg => rfl); (case hr => first | (go_simp; done) | (go_simp; rfl)); intro gb330 hg w7 hbox hb; have BK330 := aM (hbox); have GW330 := gE (w := w) hg (qB1 HB GE329); have GE330 := GW330; replace HB := bS (qB1 HB GE329) hb; have NB329_330 := nL hg BK329; have NB330_329 := nG hg BK329; replace BK329 := bK BK329 hb; clear hb hbox hg; have hnb8 := NB329_330.out; have hnc8 := NB330_329.out; obtain ⟨hcz9_0, hcz9_1, hcz9_2, hfz9_0, hfz9_1, hfz9_2⟩ := blk3 BK329.out) | ((with_reducible refine gate_callee (f := 39) rfl ?_); refine goesL_ (some 9) rfl rfl Try.func39 (by kernel_rfl) rfl #[.agg #[.int .i64 a0_0, .slice A0_1 l0_1.length c0_1, .slice A0_2 l0_2.length c0_2]] rfl pA ?_; (with_reducible refine (view_right.calls k a0_0 _ _ l0_1 _ _ l0_2 true _ ?s1 ?s2 ?s3 ?s4 A3.out).mono ?_); (case s1 => exact sC HR0_1 HB); (case s2 => exact HC0_1.out); (case s3 => exact sC HR0_2 HB); (case s4 => exact HC0_2.out); rintro e w10 ⟨rfl, hb⟩; refine ⟨_, rfl, ?_⟩; replace BK329 := bK BK329 hb; replace BK330 := bK BK330 hb; replace HB := bS (qB2 HB GE329 GE330) hb; (try clear hb); (try clear hk); (try clear hi)))
 (try simp only [Act.put, sP])
 go_cut [20] (fun v20 wc => ∃ (kq : Nat) (x20_4 : Bool), v20 = .bool x20_4 ∧ Aside0 (view_Flip.j0 kq a1 x20_4 a0_0 l0_1 l0_2 = some (r1, r2, r3, r4)) ∧ Aside0 (kq ≤ k) ∧ Aside0 (wc.heap[gb329]? = some (.cells #[.int .i64 a0_0, (.slice A0_1 l0_1.length c0_1), (.slice A0_2 l0_2.length c0_2)] 24 (0, 0))) ∧ Aside0 (wc.heap[gb330]? = some (.cells #[.int .i64 0, (.slice none 0 0), (.slice none 0 0)] 24 (0, 0))) ∧ Aside0 (Below w.heap.size w wc))
 case first =>
  have H := HC5.out
  clear HC5
  by_cases c11 : a1 < 0
  ·rw [if_pos c11] at H
   have c11b0 : decide (a1 < 0) = true := decide_eq_true c11
   clear c11
   (first | rw [c11b0] | (simp only [i64_w, i32_w]; rw [c11b0]) | skip)
   have H' := aM H
   clear H
   go_wp2
   go_meet
   case rel => exact ⟨_, (true), (pF), H', ⟨by first | omega | exact Nat.le_refl _⟩, ⟨by (with_reducible repeat (first | apply bN | apply bD | apply bA)); exact BK329.out⟩, ⟨by (with_reducible repeat (first | apply bN | apply bD | apply bA)); exact BK330.out⟩, ⟨qB2 HB GE329 GE330⟩⟩
  rw [if_neg c11] at H
  have c11b0 : decide (a1 < 0) = false := decide_eq_false c11
  clear c11
  (first | rw [c11b0] | (simp only [i64_w, i32_w]; rw [c11b0]) | skip)
  have H' := aM H
  clear H
  have hnb12 := NB329_330.out
  have hnc12 := NB330_329.out
  obtain ⟨hcz13_0, hcz13_1, hcz13_2, hfz13_0, hfz13_1, hfz13_2⟩ := blk3 BK329.out
  go_wp2
  go_meet
  case rel => exact ⟨_, (decide (a1 ≥ (l0_1.length : Int))), (pF), H', ⟨by first | omega | exact Nat.le_refl _⟩, ⟨by (with_reducible repeat (first | apply bN | apply bD | apply bA)); exact BK329.out⟩, ⟨by (with_reducible repeat (first | apply bN | apply bD | apply bA)); exact BK330.out⟩, ⟨qB2 HB GE329 GE330⟩⟩
 case rest =>
  clear HC5
  try clear c4
  try clear hcz9_0 hcz9_1 hcz9_2 hfz9_0 hfz9_1 hfz9_2
  obtain ⟨kq, x20_4, rfl, HA, HJ4, BK329, BK330, HB⟩ := hcut
  cases kq with
  | zero => exact absurd HA.out (by simp [view_Flip.j0])
  | succ kj4 =>
   have H := HA.out
   clear HA
   simp only [view_Flip.j0] at H
   by_cases c14 : x20_4 = true
   ·subst c14
    rw [if_pos rfl] at H
    simp only [Option.some.injEq, Prod.mk.injEq] at H
    obtain ⟨rfl, rfl, rfl, rfl⟩ := H
    have hnb15 := NB330_329.out
    have hnc15 := NB329_330.out
    obtain ⟨hcz16_0, hcz16_1, hcz16_2, hfz16_0, hfz16_1, hfz16_2⟩ := blk3 BK330.out
    go_wp2
    refine bodyPost_ret (results_ct rfl _ _ gb330 24 #[.int .i64 0, .slice none 0 0, .slice none 0 0] (0, 0) _ rfl (by exact P3 BK330) Try.underlying24 rfl (by kernel_rfl)) rfl ?_
    exact ⟨_, _, pE, pN, pN, qB2 HB GE329 GE330⟩
   replace c14 := Bool.eq_false_iff.mpr c14
   subst c14
   rw [if_neg (show ¬ (false = true) by decide)] at H
   replace H := Option.bind_eq_some_iff.mp H
   obtain ⟨⟨t332, t333, t336⟩, A170, H⟩ := H
   try dsimp only at H
   have A17 := aM A170
   clear A170
   by_cases c18 : 0 ≤ a1
   rotate_left
   ·rw [if_neg c18] at H
    exact absurd H (by simp)
   rw [if_pos c18] at H
   have c18b0 : decide (0 ≤ a1) = true := decide_eq_true c18
   clear c18
   by_cases c19 : a1 < (l0_1.length : Int)
   rotate_left
   ·rw [if_neg c19] at H
    exact absurd H (by simp)
   rw [if_pos c19] at H
   have c19b0 : decide (a1 < (l0_1.length : Int)) = true := decide_eq_true c19
   clear c19
   by_cases c20 : (rd l0_1 a1) > 1
   rotate_left
   ·rw [if_neg c20] at H
    have c20b0 : decide (1 < (rd l0_1 a1)) = false := decide_eq_false c20
    clear c20
    simp only [Option.some.injEq, Prod.mk.injEq] at H
    obtain ⟨rfl, rfl, rfl, rfl⟩ := H
    have hnb43 := NB329_330.out
    have hnc43 := NB330_329.out
    obtain ⟨hcz44_0, hcz44_1, hcz44_2, hfz44_0, hfz44_1, hfz44_2⟩ := blk3 BK329.out
    go_wp2_with (first | ((with_reducible refine gate_callee (f := 45) rfl ?_); refine goesL_ (some 23) rfl rfl Try.func45 (by kernel_rfl) rfl #[.agg #[.int .i64 a0_0, .slice A0_1 l0_1.length c0_1, .slice A0_2 l0_2.length c0_2]] rfl pA ?_; (with_reducible refine (view_copied.calls a0_0 _ _ l0_1 _ _ l0_2 t332 t333 t336 _ ?s1 ?s2 ?s3 ?s4 A17.out).mono ?_); (case s1 => exact sC HR0_1 HB); (case s2 => exact HC0_1.out); (case s3 => exact sC HR0_2 HB); (case s4 => exact HC0_2.out); rintro e w45 ⟨v334, v337, rfl, ho0, ho1, hb⟩; refine ⟨_, rfl, ?_⟩; have HO335 := aM (Kd.R_lower ho0 (below_size (qB2 HB GE329 GE330))); have HO338 := aM (Kd.R_lower ho1 (below_size (qB2 HB GE329 GE330))); replace BK329 := bK BK329 hb; replace BK330 := bK BK330 hb; replace HB := bS (qB2 HB GE329 GE330) hb; (try clear hb); (try clear hk); (try clear hi); (try clear ho0); (try clear ho1)) | ((with_reducible refine gate_dst (N := 6) rfl ?_); (try (refine gate_guard (by rfl) ?_; dsimp only)); refine box_event ?hg (N := 6) ?hd (cs := #[.int .i64 0, .slice none 0 0, .slice none 0 0]) (t := 24) ?hr ?_; (case hd => rfl); (case hg => rfl); (case hr => first | (go_simp; done) | (go_simp; rfl)); intro gb339 hg w46 hbox hb; replace HO335 := bR HO335 hb; replace HO338 := bR HO338 hb; have BK339 := aM (hbox); have GW339 := gE (w := w) hg (qB2 HB GE329 GE330); have GE339 := GW339; replace HB := bS (qB2 HB GE329 GE330) hb; have NB329_339 := nL hg BK329; have NB339_329 := nG hg BK329; replace BK329 := bK BK329 hb; have NB330_339 := nL hg BK330; have NB339_330 := nG hg BK330; replace BK330 := bK BK330 hb; clear hb hbox hg; have hnb47 := NB339_329.out; have hnc47 := NB329_339.out; have hnb48 := NB339_330.out; have hnc48 := NB330_339.out; obtain ⟨hcz49_0, hcz49_1, hcz49_2, hfz49_0, hfz49_1, hfz49_2⟩ := blk3 BK339.out; obtain ⟨Ao50, co50, eo50⟩ := Kd.R_slice HO335.out; subst eo50; obtain ⟨Ao51, co51, eo51⟩ := Kd.R_slice HO338.out; subst eo51; obtain ⟨hcz52_0, hcz52_1, hcz52_2, hfz52_0, hfz52_1, hfz52_2⟩ := blk3 BK329.out; have p340 : 0 ≤ (a1 : Int) := of_decide_eq_true pD; have q340 : a1 < (l0_1.length : Int) := of_decide_eq_true pD; obtain ⟨ad340, e340, hx340_0⟩ := Kd.at_int HR0_1.out a1 p340 q340; cases e340; have hn340_0 : ad340.block ≠ gb339 := Nat.ne_of_lt (Nat.lt_of_lt_of_le (by have := World.block_lt_of_cell? _ _ hx340_0; first | rwa [add_block] at this | exact this) GW339.out); have hn340_1 : ad340.block ≠ gb339 := Nat.ne_of_lt (Nat.lt_of_lt_of_le (by have := World.block_lt_of_cell? _ _ hx340_0; first | rwa [add_block] at this | exact this) GW339.out); have hn340_2 : ad340.block ≠ gb339 := Nat.ne_of_lt (Nat.lt_of_lt_of_le (by have := World.block_lt_of_cell? _ _ hx340_0; first | rwa [add_block] at this | exact this) GW339.out); replace hx340_0 := (HB.out.cell (World.block_lt_of_cell? w _ hx340_0)).trans hx340_0; replace hx340_0 := (cell_far (p := ⟨gb339, 0, none⟩) (by first | (rw [add_block]; exact hn340_0) | (show (Addr.add _ _).block ≠ _; rw [add_block]; exact hn340_0) | exact hn340_0) (.int .i64 t332)).trans hx340_0; replace hx340_0 := (cell_far (p := ⟨gb339, 1, none⟩) (by first | (rw [add_block]; exact hn340_1) | (show (Addr.add _ _).block ≠ _; rw [add_block]; exact hn340_1) | exact hn340_1) (.slice Ao50 t333.length co50)).trans hx340_0; replace hx340_0 := (cell_far (p := ⟨gb339, 2, none⟩) (by first | (rw [add_block]; exact hn340_2) | (show (Addr.add _ _).block ≠ _; rw [add_block]; exact hn340_2) | exact hn340_2) (.slice Ao51 t336.length co51)).trans hx340_0; clear hn340_0; clear hn340_1; clear hn340_2; replace p340 := eq_true p340; replace q340 := eq_true q340; obtain ⟨hcz53_0, hcz53_1, hcz53_2, hfz53_0, hfz53_1, hfz53_2⟩ := blk3 BK330.out))
    refine bodyPost_ret (results_ct rfl _ _ gb330 24 #[.int .i64 t332, .slice Ao50 t333.length co50, .slice Ao51 t336.length co51] (0, 0) _ rfl (by (with_reducible repeat (first | apply bN | apply bD | apply bA)); refine blk_put (cs := #[.int .i64 t332, .slice Ao50 t333.length co50, .slice none 0 0]) ?_ 2 _ rfl; (with_reducible repeat (first | apply bN | apply bD | apply bA)); refine blk_put (cs := #[.int .i64 t332, .slice none 0 0, .slice none 0 0]) ?_ 1 _ rfl; (with_reducible repeat (first | apply bN | apply bD | apply bA)); refine blk_put (cs := #[.int .i64 0, .slice none 0 0, .slice none 0 0]) ?_ 0 _ rfl; refine B3 NB330_339 ?_; exact BK330.out) Try.underlying24 rfl (by kernel_rfl)) rfl ?_
    exact ⟨_, _, pE, by (with_reducible repeat (first | apply rA | apply rN | apply rD)); exact Kd.R_mono (Kd.R_far (p := ⟨gb330, 2, none⟩) (Kd.R_far (p := ⟨gb330, 1, none⟩) (Kd.R_far (p := ⟨gb330, 0, none⟩) (Kd.R_far (p := ⟨gb339, 2, none⟩) (Kd.R_far (p := ⟨gb339, 1, none⟩) (Kd.R_far (p := ⟨gb339, 0, none⟩) (Kd.R_types (Kd.R_types HO335.out BK339.out (by decide)) BK330.out (by decide)) (fun _ hk => hk.1.2) (.int .i64 t332)) (fun _ hk => hk.1.2) (.slice Ao50 t333.length co50)) (fun _ hk => hk.1.2) (.slice Ao51 t336.length co51)) (fun _ hk => hk.2) (.int .i64 t332)) (fun _ hk => hk.2) (.slice Ao50 t333.length co50)) (fun _ hk => hk.2) (.slice Ao51 t336.length co51)) (fun _ hk => hk.1.1), by (with_reducible repeat (first | apply rA | apply rN | apply rD)); exact Kd.R_mono (Kd.R_far (p := ⟨gb330, 2, none⟩) (Kd.R_far (p := ⟨gb330, 1, none⟩) (Kd.R_far (p := ⟨gb330, 0, none⟩) (Kd.R_far (p := ⟨gb339, 2, none⟩) (Kd.R_far (p := ⟨gb339, 1, none⟩) (Kd.R_far (p := ⟨gb339, 0, none⟩) (Kd.R_types (Kd.R_types HO338.out BK339.out (by decide)) BK330.out (by decide)) (fun _ hk => hk.1.2) (.int .i64 t332)) (fun _ hk => hk.1.2) (.slice Ao50 t333.length co50)) (fun _ hk => hk.1.2) (.slice Ao51 t336.length co51)) (fun _ hk => hk.2) (.int .i64 t332)) (fun _ hk => hk.2) (.slice Ao50 t333.length co50)) (fun _ hk => hk.2) (.slice Ao51 t336.length co51)) (fun _ hk => hk.1.1), qB3 HB GE329 GE330 GE339⟩
   rw [if_pos c20] at H
   have c20b0 : decide (1 < (rd l0_1 a1)) = true := decide_eq_true c20
   clear c20
   by_cases c21 : a1 < (l0_2.length : Int)
   rotate_left
   ·rw [if_neg c21] at H
    exact absurd H (by simp)
   rw [if_pos c21] at H
   have c21b0 : decide (a1 < (l0_2.length : Int)) = true := decide_eq_true c21
   clear c21
   by_cases c22 : a1 < (t336.length : Int)
   rotate_left
   ·rw [if_neg c22] at H
    exact absurd H (by simp)
   rw [if_pos c22] at H
   have c22b0 : decide (a1 < (t336.length : Int)) = true := decide_eq_true c22
   clear c22
   obtain ⟨y343, hy343⟩ : ∃ y_ : List Int, y_ = (t336.set (a1 : Int).toNat (wrap64 (-(rd l0_2 a1)))) := ⟨_, rfl⟩
   replace H : (some (wrap64 (t332 + (wrap64 ((wrap64 ((rd l0_1 a1) - 1)) * (rd l0_2 a1)))), t333, y343, 0)) = some (r1, r2, r3, r4) := pH hy343 H
   have Ny343 := aM hy343
   clear hy343
   simp only [Option.some.injEq, Prod.mk.injEq] at H
   obtain ⟨rfl, rfl, rfl, rfl⟩ := H
   have hnb24 := NB329_330.out
   have hnc24 := NB330_329.out
   obtain ⟨hcz25_0, hcz25_1, hcz25_2, hfz25_0, hfz25_1, hfz25_2⟩ := blk3 BK329.out
   try go_wp2_with (first | ((with_reducible refine gate_callee (f := 45) rfl ?_); refine goesL_ (some 23) rfl rfl Try.func45 (by kernel_rfl) rfl #[.agg #[.int .i64 a0_0, .slice A0_1 l0_1.length c0_1, .slice A0_2 l0_2.length c0_2]] rfl pA ?_; (with_reducible refine (view_copied.calls a0_0 _ _ l0_1 _ _ l0_2 t332 t333 t336 _ ?s1 ?s2 ?s3 ?s4 A17.out).mono ?_); (case s1 => exact sC HR0_1 HB); (case s2 => exact HC0_1.out); (case s3 => exact sC HR0_2 HB); (case s4 => exact HC0_2.out); rintro e w26 ⟨v334, v337, rfl, ho0, ho1, hb⟩; refine ⟨_, rfl, ?_⟩; have HO335 := aM (Kd.R_lower ho0 (below_size (qB2 HB GE329 GE330))); have HO338 := aM (Kd.R_lower ho1 (below_size (qB2 HB GE329 GE330))); replace BK329 := bK BK329 hb; replace BK330 := bK BK330 hb; replace HB := bS (qB2 HB GE329 GE330) hb; (try clear hb); (try clear hk); (try clear hi); (try clear ho0); (try clear ho1)) | ((with_reducible refine gate_dst (N := 6) rfl ?_); (try (refine gate_guard (by rfl) ?_; dsimp only)); refine box_event ?hg (N := 6) ?hd (cs := #[.int .i64 0, .slice none 0 0, .slice none 0 0]) (t := 24) ?hr ?_; (case hd => rfl); (case hg => rfl); (case hr => first | (go_simp; done) | (go_simp; rfl)); intro gb339 hg w27 hbox hb; replace HO335 := bR HO335 hb; replace HO338 := bR HO338 hb; have BK339 := aM (hbox); have GW339 := gE (w := w) hg (qB2 HB GE329 GE330); have GE339 := GW339; replace HB := bS (qB2 HB GE329 GE330) hb; have NB329_339 := nL hg BK329; have NB339_329 := nG hg BK329; replace BK329 := bK BK329 hb; have NB330_339 := nL hg BK330; have NB339_330 := nG hg BK330; replace BK330 := bK BK330 hb; clear hb hbox hg; have hnb28 := NB339_329.out; have hnc28 := NB329_339.out; have hnb29 := NB339_330.out; have hnc29 := NB330_339.out; obtain ⟨hcz30_0, hcz30_1, hcz30_2, hfz30_0, hfz30_1, hfz30_2⟩ := blk3 BK339.out; obtain ⟨Ao31, co31, eo31⟩ := Kd.R_slice HO335.out; subst eo31; obtain ⟨Ao32, co32, eo32⟩ := Kd.R_slice HO338.out; subst eo32; obtain ⟨hcz33_0, hcz33_1, hcz33_2, hfz33_0, hfz33_1, hfz33_2⟩ := blk3 BK329.out; have p340 : 0 ≤ (a1 : Int) := of_decide_eq_true pD; have q340 : a1 < (l0_1.length : Int) := of_decide_eq_true pD; obtain ⟨ad340, e340, hx340_0⟩ := Kd.at_int HR0_1.out a1 p340 q340; cases e340; have hn340_0 : ad340.block ≠ gb339 := Nat.ne_of_lt (Nat.lt_of_lt_of_le (by have := World.block_lt_of_cell? _ _ hx340_0; first | rwa [add_block] at this | exact this) GW339.out); have hn340_1 : ad340.block ≠ gb339 := Nat.ne_of_lt (Nat.lt_of_lt_of_le (by have := World.block_lt_of_cell? _ _ hx340_0; first | rwa [add_block] at this | exact this) GW339.out); have hn340_2 : ad340.block ≠ gb339 := Nat.ne_of_lt (Nat.lt_of_lt_of_le (by have := World.block_lt_of_cell? _ _ hx340_0; first | rwa [add_block] at this | exact this) GW339.out); replace hx340_0 := (HB.out.cell (World.block_lt_of_cell? w _ hx340_0)).trans hx340_0; replace hx340_0 := (cell_far (p := ⟨gb339, 0, none⟩) (by first | (rw [add_block]; exact hn340_0) | (show (Addr.add _ _).block ≠ _; rw [add_block]; exact hn340_0) | exact hn340_0) (.int .i64 t332)).trans hx340_0; replace hx340_0 := (cell_far (p := ⟨gb339, 1, none⟩) (by first | (rw [add_block]; exact hn340_1) | (show (Addr.add _ _).block ≠ _; rw [add_block]; exact hn340_1) | exact hn340_1) (.slice Ao31 t333.length co31)).trans hx340_0; replace hx340_0 := (cell_far (p := ⟨gb339, 2, none⟩) (by first | (rw [add_block]; exact hn340_2) | (show (Addr.add _ _).block ≠ _; rw [add_block]; exact hn340_2) | exact hn340_2) (.slice Ao32 t336.length co32)).trans hx340_0; clear hn340_0; clear hn340_1; clear hn340_2; replace p340 := eq_true p340; replace q340 := eq_true q340))
   have n0_ : Aside0 (Kd.R (Kd.int .i64) 3 (((w27.setCell ⟨gb339, 0, none⟩ (.int .i64 t332)).setCell ⟨gb339, 1, none⟩ (.slice Ao31 t333.length co31)).setCell ⟨gb339, 2, none⟩ (.slice Ao32 t336.length co32)) w.heap.size (fun k_ => some k_ ≠ (.slice Ao32 t336.length co32 : Value).ownBlock) (.slice Ao31 t333.length co31) t333) := ⟨by (with_reducible repeat (first | apply rA | apply rN | apply rD)); exact F3 HO335 BK339 (fun _ hk => hk.1)⟩
   have n1_ : Aside0 (Kd.R (Kd.int .i64) 3 (((w27.setCell ⟨gb339, 0, none⟩ (.int .i64 t332)).setCell ⟨gb339, 1, none⟩ (.slice Ao31 t333.length co31)).setCell ⟨gb339, 2, none⟩ (.slice Ao32 t336.length co32)) w.heap.size (fun k_ => some k_ ≠ (.slice Ao31 t333.length co31 : Value).ownBlock) (.slice Ao32 t336.length co32) t336) := ⟨by (with_reducible repeat (first | apply rA | apply rN | apply rD)); exact F3 HO338 BK339 (fun _ hk => hk.1)⟩
   have n2_ : Aside0 ((((w27.setCell ⟨gb339, 0, none⟩ (.int .i64 t332)).setCell ⟨gb339, 1, none⟩ (.slice Ao31 t333.length co31)).setCell ⟨gb339, 2, none⟩ (.slice Ao32 t336.length co32)).heap[gb329]? = some (.cells #[.int .i64 a0_0, .slice (some ad340) l0_1.length c0_1, .slice A0_2 l0_2.length c0_2] 24 (0, 0))) := ⟨by refine B3 NB329_339 ?_; exact BK329.out⟩
   have n3_ : Aside0 ((((w27.setCell ⟨gb339, 0, none⟩ (.int .i64 t332)).setCell ⟨gb339, 1, none⟩ (.slice Ao31 t333.length co31)).setCell ⟨gb339, 2, none⟩ (.slice Ao32 t336.length co32)).heap[gb330]? = some (.cells #[.int .i64 0, .slice none 0 0, .slice none 0 0] 24 (0, 0))) := ⟨by refine B3 NB330_339 ?_; exact BK330.out⟩
   have n4_ : Aside0 ((((w27.setCell ⟨gb339, 0, none⟩ (.int .i64 t332)).setCell ⟨gb339, 1, none⟩ (.slice Ao31 t333.length co31)).setCell ⟨gb339, 2, none⟩ (.slice Ao32 t336.length co32)).heap[gb339]? = some (.cells #[.int .i64 t332, .slice Ao31 t333.length co31, .slice Ao32 t336.length co32] 24 (0, 0))) := ⟨by exact P3 BK339⟩
   have n5_ : Aside0 (Below w.heap.size w (((w27.setCell ⟨gb339, 0, none⟩ (.int .i64 t332)).setCell ⟨gb339, 1, none⟩ (.slice Ao31 t333.length co31)).setCell ⟨gb339, 2, none⟩ (.slice Ao32 t336.length co32))) := ⟨qB3 HB GE329 GE330 GE339⟩
   (try clear HO335)
   (try clear HO338)
   (try clear BK329)
   (try clear BK330)
   (try clear BK339)
   (try clear HB)
   generalize (((w27.setCell ⟨gb339, 0, none⟩ (.int .i64 t332)).setCell ⟨gb339, 1, none⟩ (.slice Ao31 t333.length co31)).setCell ⟨gb339, 2, none⟩ (.slice Ao32 t336.length co32)) = w34 at n0_ n1_ n2_ n3_ n4_ n5_ ⊢
   have HO335 := n0_
   have HO338 := n1_
   have BK329 := n2_
   have BK330 := n3_
   have BK339 := n4_
   have HB := n5_
   clear n0_ n1_ n2_ n3_ n4_ n5_
   replace HO335 := aM (Kd.R_drew HO335.out)
   replace HO338 := aM (Kd.R_drew HO338.out)
   replace BK329 := aM (blk_drew BK329.out)
   replace BK330 := aM (blk_drew BK330.out)
   replace BK339 := aM (blk_drew BK339.out)
   replace HB := aM (below_drew1 HB.out)
   have p341 : 0 ≤ (a1 : Int) := of_decide_eq_true pD
   have q341 : a1 < (l0_2.length : Int) := of_decide_eq_true pD
   obtain ⟨ad341, e341, hx341_0⟩ := Kd.at_int HR0_2.out a1 p341 q341
   have hw341_0 := hx341_0
   cases e341
   replace hx341_0 := (HB.out.cell (World.block_lt_of_cell? w _ hx341_0)).trans hx341_0
   replace p341 := eq_true p341
   replace q341 := eq_true q341
   refine start_ (n := 13) (S := fun w' => w'.cell? ⟨gb339, 0, none⟩ = some (.int .i64 t332) ∧ w'.cell? ⟨gb339, 1, none⟩ = some (.slice Ao31 t333.length co31) ∧ w'.cell? ⟨gb339, 2, none⟩ = some (.slice Ao32 t336.length co32) ∧ w'.cell? ⟨gb329, 0, none⟩ = some (.int .i64 a0_0) ∧ w'.cell? ⟨gb329, 1, none⟩ = some (.slice (some ad340) l0_1.length c0_1) ∧ w'.cell? ⟨gb329, 2, none⟩ = some (.slice (some ad341) l0_2.length c0_2) ∧ w'.cell? (ad341.add (a1).toNat) = some (.int .i64 (rd l0_2 a1))) (ds := [12]) #[false, false, false, false, false, false, false, false, false, false, false, false, false] (by kernel_rfl) rfl rfl ⟨(blk_cell BK339.out 0).trans rfl, (blk_cell BK339.out 1).trans rfl, (blk_cell BK339.out 2).trans rfl, (blk_cell BK329.out 0).trans rfl, (blk_cell BK329.out 1).trans rfl, (blk_cell BK329.out 2).trans rfl, ((HB.out.cell (World.block_lt_of_cell? w _ hw341_0)).trans hw341_0)⟩ (fun hHeld => ?_); refine with_tabW view_Flip.tab8 view_Flip.bits8 (fun HT_ HW_ => ?_)
   generalize w34.drew = w35 at HO335 HO338 BK329 BK330 BK339 HB hx341_0 hHeld ⊢
   refine pP (i := 0) (N := some 31) #[true, false, false, false, false, false, false, false, false, false, false, false, false] rfl rfl HT_.out ?_
   refine pP (i := 2) (N := some 33) #[true, false, true, false, false, false, false, false, false, false, false, false, false] rfl rfl HT_.out ?_
   refine pP (i := 3) (N := some 34) #[true, false, true, true, false, false, false, false, false, false, false, false, false] rfl rfl HT_.out ?_
   refine pP (i := 4) (N := some 35) #[true, false, true, true, true, false, false, false, false, false, false, false, false] rfl rfl HT_.out ?_
   refine pP (i := 6) (N := some 37) #[true, false, true, true, true, false, true, false, false, false, false, false, false] rfl rfl HT_.out ?_
   refine pT (i := 1) (N := some 32) #[true, true, true, true, true, false, true, false, false, false, false, false, false] rfl rfl HT_.out HW_.out hHeld (by rintro w' ⟨s0, s1, s2, s3, s4, s5, s6⟩; go_simp; with_reducible rfl) ?_
   refine pT (i := 5) (N := some 36) #[true, true, true, true, true, true, true, false, false, false, false, false, false] rfl rfl HT_.out HW_.out hHeld (by rintro w' ⟨s0, s1, s2, s3, s4, s5, s6⟩; go_simp; with_reducible rfl) ?_
   refine pP (i := 7) (N := some 38) #[true, true, true, true, true, true, true, true, false, false, false, false, false] rfl rfl HT_.out ?_
   refine pT (i := 8) (N := some 39) #[true, true, true, true, true, true, true, true, true, false, false, false, false] rfl rfl HT_.out HW_.out hHeld (by rintro w' ⟨s0, s1, s2, s3, s4, s5, s6⟩; go_simp; with_reducible rfl) ?_
   refine pP (i := 9) (N := some 40) #[true, true, true, true, true, true, true, true, true, true, false, false, false] rfl rfl HT_.out ?_
   refine pP (i := 10) (N := some 41) #[true, true, true, true, true, true, true, true, true, true, true, false, false] rfl rfl HT_.out ?_
   refine pP (i := 11) (N := some 42) #[true, true, true, true, true, true, true, true, true, true, true, true, false] rfl rfl HT_.out ?_
   refine last_ (i := 12) (N := none) #[true, true, true, true, true, true, true, true, true, true, true, true, true] rfl rfl (one_of HT_.out (by kernel_rfl)) (by decide) (fun K hK => ?_)
   have hs36 : w35.cell? ⟨gb339, 0, none⟩ = some (.int .i64 t332) := (blk_cell BK339.out 0).trans rfl
   have hfs36 := blk_frozen BK339.out 0
   have hns36_0 := NB329_339.out
   have hns36_1 := NB330_339.out
   have hms36_0 := NB339_329.out
   have hms36_1 := NB339_330.out
   refine skip_ (w1 := ?_) (by rfl) rfl ?_ ?_
   rotate_left
   ·go_simp
    rfl
   refine hK.out _ _ ?_
   clear hK K
   refine done_ (done_of HT_.out (by kernel_rfl)) ?_
   try go_wp2
   have n0_ : Aside0 (Kd.R (Kd.int .i64) 3 (w35.setCell ⟨gb339, 0, none⟩ (.int .i64 (wrap64 (t332 + (wrap64 ((wrap64 ((rd l0_1 a1) - 1)) * (rd l0_2 a1))))))) w.heap.size (fun k_ => some k_ ≠ (.slice Ao32 t336.length co32 : Value).ownBlock) (.slice Ao31 t333.length co31) t333) := ⟨by (with_reducible repeat (first | apply rA | apply rN | apply rD)); exact Kd.R_mono (Kd.R_far (p := ⟨gb339, 0, none⟩) (Kd.R_types HO335.out BK339.out (by decide)) (fun _ hk => hk.2) (.int .i64 (wrap64 (t332 + (wrap64 ((wrap64 ((rd l0_1 a1) - 1)) * (rd l0_2 a1))))))) (fun _ hk => hk.1)⟩
   have n1_ : Aside0 (Kd.R (Kd.int .i64) 3 (w35.setCell ⟨gb339, 0, none⟩ (.int .i64 (wrap64 (t332 + (wrap64 ((wrap64 ((rd l0_1 a1) - 1)) * (rd l0_2 a1))))))) w.heap.size (fun k_ => some k_ ≠ (.slice Ao31 t333.length co31 : Value).ownBlock) (.slice Ao32 t336.length co32) t336) := ⟨by (with_reducible repeat (first | apply rA | apply rN | apply rD)); exact Kd.R_mono (Kd.R_far (p := ⟨gb339, 0, none⟩) (Kd.R_types HO338.out BK339.out (by decide)) (fun _ hk => hk.2) (.int .i64 (wrap64 (t332 + (wrap64 ((wrap64 ((rd l0_1 a1) - 1)) * (rd l0_2 a1))))))) (fun _ hk => hk.1)⟩
   have n2_ : Aside0 ((w35.setCell ⟨gb339, 0, none⟩ (.int .i64 (wrap64 (t332 + (wrap64 ((wrap64 ((rd l0_1 a1) - 1)) * (rd l0_2 a1))))))).heap[gb329]? = some (.cells #[.int .i64 a0_0, .slice (some ad340) l0_1.length c0_1, .slice (some ad341) l0_2.length c0_2] 24 (0, 0))) := ⟨by (with_reducible repeat (first | apply bN | apply bD | apply bA)); refine blk_far ?_ NB329_339.out _; (with_reducible repeat (first | apply bN | apply bD | apply bA)); exact BK329.out⟩
   have n3_ : Aside0 ((w35.setCell ⟨gb339, 0, none⟩ (.int .i64 (wrap64 (t332 + (wrap64 ((wrap64 ((rd l0_1 a1) - 1)) * (rd l0_2 a1))))))).heap[gb330]? = some (.cells #[.int .i64 0, .slice none 0 0, .slice none 0 0] 24 (0, 0))) := ⟨by (with_reducible repeat (first | apply bN | apply bD | apply bA)); refine blk_far ?_ NB330_339.out _; (with_reducible repeat (first | apply bN | apply bD | apply bA)); exact BK330.out⟩
   have n4_ : Aside0 ((w35.setCell ⟨gb339, 0, none⟩ (.int .i64 (wrap64 (t332 + (wrap64 ((wrap64 ((rd l0_1 a1) - 1)) * (rd l0_2 a1))))))).heap[gb339]? = some (.cells #[.int .i64 (wrap64 (t332 + (wrap64 ((wrap64 ((rd l0_1 a1) - 1)) * (rd l0_2 a1))))), .slice Ao31 t333.length co31, .slice Ao32 t336.length co32] 24 (0, 0))) := ⟨by (with_reducible repeat (first | apply bN | apply bD | apply bA)); refine blk_put (cs := #[.int .i64 t332, .slice Ao31 t333.length co31, .slice Ao32 t336.length co32]) ?_ 0 _ rfl; (with_reducible repeat (first | apply bN | apply bD | apply bA)); exact BK339.out⟩
   have n5_ : Aside0 (Below w.heap.size w (w35.setCell ⟨gb339, 0, none⟩ (.int .i64 (wrap64 (t332 + (wrap64 ((wrap64 ((rd l0_1 a1) - 1)) * (rd l0_2 a1)))))))) := ⟨qB3 HB GE329 GE330 GE339⟩
   (try clear HO335)
   (try clear HO338)
   (try clear BK329)
   (try clear BK330)
   (try clear BK339)
   (try clear HB)
   generalize (w35.setCell ⟨gb339, 0, none⟩ (.int .i64 (wrap64 (t332 + (wrap64 ((wrap64 ((rd l0_1 a1) - 1)) * (rd l0_2 a1))))))) = w37 at n0_ n1_ n2_ n3_ n4_ n5_ ⊢
   have HO335 := n0_
   have HO338 := n1_
   have BK329 := n2_
   have BK330 := n3_
   have BK339 := n4_
   have HB := n5_
   clear n0_ n1_ n2_ n3_ n4_ n5_
   replace HO335 := aM (Kd.R_drew HO335.out)
   replace HO338 := aM (Kd.R_drew HO338.out)
   replace BK329 := aM (blk_drew BK329.out)
   replace BK330 := aM (blk_drew BK330.out)
   replace BK339 := aM (blk_drew BK339.out)
   replace HB := aM (below_drew1 HB.out)
   have p342 : 0 ≤ (a1 : Int) := of_decide_eq_true pD
   have q342 : a1 < (l0_2.length : Int) := of_decide_eq_true pD
   obtain ⟨ad342, e342, hx342_0⟩ := Kd.at_int HR0_2.out a1 p342 q342
   have hw342_0 := hx342_0
   obtain rfl : ad341 = ad342 := (by injection e342)
   replace hx342_0 := (HB.out.cell (World.block_lt_of_cell? w _ hx342_0)).trans hx342_0
   replace p342 := eq_true p342
   replace q342 := eq_true q342
   have p23 : 0 ≤ (a1 : Int) := of_decide_eq_true pD
   have q23 : (a1 : Int) < ((t336.length : Int) : Int) := of_decide_eq_true pD
   obtain ⟨go23, co23, eo23, gb23, gl23, cl23, HG23⟩ := Kd.R_form HO338.out (by omega)
   (first | cases eo23 | (injection eo23 with ea_ en_ ec_; (first | subst ea_ | (injection ea_ with ea_; subst ea_)); subst ec_; clear en_))
   have GB23 := aM gb23
   have GG23 := aM HG23
   clear gb23 gl23 HG23
   obtain ⟨hx23_0, hf23_0⟩ := Kd.R_celln 0 HO338.out (a1 : Int) p23 q23
   replace p23 := eq_true p23
   replace q23 := eq_true q23
   have HP39 := Kd.R_putn HO338.out (a1 : Int) (wrap64 (-(rd l0_2 a1)))
   rw [← Ny343.out] at HP39
   have HQ39 := aM HP39
   clear HP39
   refine start_ (n := 11) (S := fun w' => w'.cell? ⟨gb339, 0, none⟩ = some (.int .i64 (wrap64 (t332 + (wrap64 ((wrap64 ((rd l0_1 a1) - 1)) * (rd l0_2 a1)))))) ∧ w'.cell? ⟨gb339, 1, none⟩ = some (.slice Ao31 t333.length co31) ∧ w'.cell? ⟨gb339, 2, none⟩ = some (.slice (some ⟨go23, 0, none⟩) t336.length co32) ∧ w'.cell? ⟨gb329, 0, none⟩ = some (.int .i64 a0_0) ∧ w'.cell? ⟨gb329, 1, none⟩ = some (.slice (some ad340) l0_1.length c0_1) ∧ w'.cell? ⟨gb329, 2, none⟩ = some (.slice (some ad341) l0_2.length c0_2) ∧ w'.cell? (ad341.add (a1).toNat) = some (.int .i64 (rd l0_2 a1))) (ds := [10]) #[false, false, false, false, false, false, false, false, false, false, false] (by kernel_rfl) rfl rfl ⟨(blk_cell BK339.out 0).trans rfl, (blk_cell BK339.out 1).trans rfl, (blk_cell BK339.out 2).trans rfl, (blk_cell BK329.out 0).trans rfl, (blk_cell BK329.out 1).trans rfl, (blk_cell BK329.out 2).trans rfl, ((HB.out.cell (World.block_lt_of_cell? w _ hw342_0)).trans hw342_0)⟩ (fun hHeld => ?_); refine with_tabW view_Flip.tab9 view_Flip.bits9 (fun HT_ HW_ => ?_)
   generalize w37.drew = w38 at HO335 HO338 BK329 BK330 BK339 HB GG23 HQ39 hf23_0 hx23_0 hx342_0 hHeld ⊢
   refine pP (i := 0) (N := some 43) #[true, false, false, false, false, false, false, false, false, false, false] rfl rfl HT_.out ?_
   refine pP (i := 2) (N := some 45) #[true, false, true, false, false, false, false, false, false, false, false] rfl rfl HT_.out ?_
   refine pP (i := 3) (N := some 46) #[true, false, true, true, false, false, false, false, false, false, false] rfl rfl HT_.out ?_
   refine pP (i := 5) (N := some 48) #[true, false, true, true, false, true, false, false, false, false, false] rfl rfl HT_.out ?_
   refine pT (i := 1) (N := some 44) #[true, true, true, true, false, true, false, false, false, false, false] rfl rfl HT_.out HW_.out hHeld (by rintro w' ⟨s0, s1, s2, s3, s4, s5, s6⟩; go_simp; with_reducible rfl) ?_
   refine pT (i := 4) (N := some 47) #[true, true, true, true, true, true, false, false, false, false, false] rfl rfl HT_.out HW_.out hHeld (by rintro w' ⟨s0, s1, s2, s3, s4, s5, s6⟩; go_simp; with_reducible rfl) ?_
   refine pP (i := 6) (N := some 49) #[true, true, true, true, true, true, true, false, false, false, false] rfl rfl HT_.out ?_
   refine pT (i := 7) (N := some 50) #[true, true, true, true, true, true, true, true, false, false, false] rfl rfl HT_.out HW_.out hHeld (by rintro w' ⟨s0, s1, s2, s3, s4, s5, s6⟩; go_simp; with_reducible rfl) ?_
   refine pP (i := 8) (N := some 51) #[true, true, true, true, true, true, true, true, true, false, false] rfl rfl HT_.out ?_
   refine pP (i := 9) (N := some 52) #[true, true, true, true, true, true, true, true, true, true, false] rfl rfl HT_.out ?_
   refine last_ (i := 10) (N := none) #[true, true, true, true, true, true, true, true, true, true, true] rfl rfl (one_of HT_.out (by kernel_rfl)) (by decide) (fun K hK => ?_)
   refine skip_ (w1 := ?_) (by rfl) rfl ?_ ?_
   rotate_left
   ·go_simp
    rfl
   refine hK.out _ _ ?_
   clear hK K
   refine done_ (done_of HT_.out (by kernel_rfl)) ?_
   have n0_ : Aside0 (Kd.R (Kd.int .i64) 3 (w38.setCell ⟨go23, (a1 : Int).toNat, none⟩ (.int .i64 (wrap64 (-(rd l0_2 a1))))) w.heap.size (fun k_ => some k_ ≠ (.slice (some ⟨go23, 0, none⟩) t336.length co32 : Value).ownBlock) (.slice Ao31 t333.length co31) t333) := ⟨by (with_reducible repeat (first | apply rA | apply rN | apply rD)); exact Kd.R_mono (Kd.R_far (p := ⟨go23, (a1 : Int).toNat, none⟩) (Kd.R_mono HO335.out (fun k_ hk => (⟨hk, fun e_ => hk (by rw [e_]; rfl)⟩ : _ ∧ k_ ≠ go23))) (fun _ hk => hk.2) (.int .i64 (wrap64 (-(rd l0_2 a1))))) (fun _ hk => hk.1)⟩
   have n1_ : Aside0 (Kd.R (Kd.int .i64) 3 (w38.setCell ⟨go23, (a1 : Int).toNat, none⟩ (.int .i64 (wrap64 (-(rd l0_2 a1))))) w.heap.size (fun k_ => some k_ ≠ (.slice Ao31 t333.length co31 : Value).ownBlock) (.slice (some ⟨go23, 0, none⟩) t336.length co32) y343) := ⟨pR HQ39.out⟩
   have n2_ : Aside0 ((w38.setCell ⟨go23, (a1 : Int).toNat, none⟩ (.int .i64 (wrap64 (-(rd l0_2 a1))))).heap[gb329]? = some (.cells #[.int .i64 a0_0, .slice (some ad340) l0_1.length c0_1, .slice (some ad341) l0_2.length c0_2] 24 (0, 0))) := ⟨by (with_reducible repeat (first | apply bN | apply bD | apply bA)); refine blk_far ?_ (by have h_ := Kd.R_ne HO338.out BK329.out (by decide); intro e_; exact h_ (by rw [e_]; rfl)) _; (with_reducible repeat (first | apply bN | apply bD | apply bA)); exact BK329.out⟩
   have n3_ : Aside0 ((w38.setCell ⟨go23, (a1 : Int).toNat, none⟩ (.int .i64 (wrap64 (-(rd l0_2 a1))))).heap[gb330]? = some (.cells #[.int .i64 0, .slice none 0 0, .slice none 0 0] 24 (0, 0))) := ⟨by (with_reducible repeat (first | apply bN | apply bD | apply bA)); refine blk_far ?_ (by have h_ := Kd.R_ne HO338.out BK330.out (by decide); intro e_; exact h_ (by rw [e_]; rfl)) _; (with_reducible repeat (first | apply bN | apply bD | apply bA)); exact BK330.out⟩
   have n4_ : Aside0 ((w38.setCell ⟨go23, (a1 : Int).toNat, none⟩ (.int .i64 (wrap64 (-(rd l0_2 a1))))).heap[gb339]? = some (.cells #[.int .i64 (wrap64 (t332 + (wrap64 ((wrap64 ((rd l0_1 a1) - 1)) * (rd l0_2 a1))))), .slice Ao31 t333.length co31, .slice (some ⟨go23, 0, none⟩) t336.length co32] 24 (0, 0))) := ⟨by (with_reducible repeat (first | apply bN | apply bD | apply bA)); refine blk_far ?_ (by have h_ := Kd.R_ne HO338.out BK339.out (by decide); intro e_; exact h_ (by rw [e_]; rfl)) _; (with_reducible repeat (first | apply bN | apply bD | apply bA)); exact BK339.out⟩
   have n5_ : Aside0 (Below w.heap.size w (w38.setCell ⟨go23, (a1 : Int).toNat, none⟩ (.int .i64 (wrap64 (-(rd l0_2 a1)))))) := ⟨qB4 HB GB23 GE329 GE330 GE339⟩
   (try clear HO335)
   (try clear HO338)
   (try clear BK329)
   (try clear BK330)
   (try clear BK339)
   (try clear HB)
   generalize (w38.setCell ⟨go23, (a1 : Int).toNat, none⟩ (.int .i64 (wrap64 (-(rd l0_2 a1))))) = w40 at n0_ n1_ n2_ n3_ n4_ n5_ ⊢
   have HO335 := n0_
   have HO338 := n1_
   have BK329 := n2_
   have BK330 := n3_
   have BK339 := n4_
   have HB := n5_
   clear n0_ n1_ n2_ n3_ n4_ n5_
   obtain ⟨hcz41_0, hcz41_1, hcz41_2, hfz41_0, hfz41_1, hfz41_2⟩ := blk3 BK339.out
   obtain ⟨hcz42_0, hcz42_1, hcz42_2, hfz42_0, hfz42_1, hfz42_2⟩ := blk3 BK330.out
   try go_wp2
   refine bodyPost_ret (results_ct rfl _ _ gb330 24 #[.int .i64 (wrap64 (t332 + (wrap64 ((wrap64 ((rd l0_1 a1) - 1)) * (rd l0_2 a1))))), .slice Ao31 t333.length co31, .slice (some ⟨go23, 0, none⟩) t336.length co32] (0, 0) _ rfl (by exact P3 BK330) Try.underlying24 rfl (by kernel_rfl)) rfl ?_
   exact ⟨_, _, pE, by (with_reducible repeat (first | apply rA | apply rN | apply rD)); exact Kd.R_mono (Kd.R_far (p := ⟨gb330, 2, none⟩) (Kd.R_far (p := ⟨gb330, 1, none⟩) (Kd.R_far (p := ⟨gb330, 0, none⟩) (Kd.R_types HO335.out BK330.out (by decide)) (fun _ hk => hk.2) (.int .i64 (wrap64 (t332 + (wrap64 ((wrap64 ((rd l0_1 a1) - 1)) * (rd l0_2 a1))))))) (fun _ hk => hk.2) (.slice Ao31 t333.length co31)) (fun _ hk => hk.2) (.slice (some ⟨go23, 0, none⟩) t336.length co32)) (fun _ hk => hk.1), by (with_reducible repeat (first | apply rA | apply rN | apply rD)); exact Kd.R_mono (Kd.R_far (p := ⟨gb330, 2, none⟩) (Kd.R_far (p := ⟨gb330, 1, none⟩) (Kd.R_far (p := ⟨gb330, 0, none⟩) (Kd.R_types HO338.out BK330.out (by decide)) (fun _ hk => hk.2) (.int .i64 (wrap64 (t332 + (wrap64 ((wrap64 ((rd l0_1 a1) - 1)) * (rd l0_2 a1))))))) (fun _ hk => hk.2) (.slice Ao31 t333.length co31)) (fun _ hk => hk.2) (.slice (some ⟨go23, 0, none⟩) t336.length co32)) (fun _ hk => hk.1), qB3 HB GE329 GE330 GE339⟩
def view_Row.l0 : Nat → Int → Int → Int → List Int → List Int → Option (Bool)
 | 0, _, _, _, _, _ => none
 | k + 1, x3, x4, x293000, x293001, x293002 => if x4 ≥ 0 then (if 0 ≤ x4 then (if x4 < (x293001.length : Int) then (if (rd x293001 x4) > 1 then (if x4 < (x293002.length : Int) then (if (rd x293002 x4) = x3 then (view_Row.l0 k (wrap64 (x3 * (rd x293001 x4))) (wrap64 (x4 - 1)) x293000 x293001 x293002) else (some false)) else (none)) else (view_Row.l0 k (wrap64 (x3 * (rd x293001 x4))) (wrap64 (x4 - 1)) x293000 x293001 x293002)) else (none)) else (none)) else (some true)
def view_Row.f (k : Nat) (a0_0 : Int) (l0_1 : List Int) (l0_2 : List Int) : Option (Bool) := (view_right.f k a0_0 l0_1 l0_2).bind fun t293 => (if t293 = true then (view_Row.l0 k 1 (wrap64 ((l0_1.length : Int) - 1)) a0_0 l0_1 l0_2) else (some false))
set_option maxHeartbeats 8000000 in
set_option maxRecDepth 100000 in
theorem view_Row.calls (k : Nat) (a0_0 : Int) (A0_1 : Option Addr) (c0_1 : Nat) (l0_1 : List Int) (A0_2 : Option Addr) (c0_2 : Nat) (l0_2 : List Int) (r : Bool) (w : World) (hr0_1 : Kd.C (Kd.int .i64) w A0_1 l0_1.length l0_1) (hc0_1 : l0_1.length ≤ c0_1) (hr0_2 : Kd.C (Kd.int .i64) w A0_2 l0_2.length l0_2) (hc0_2 : l0_2.length ≤ c0_2) (h : view_Row.f k a0_0 l0_1 l0_2 = some r) :
  Calls Try.prog 18 #[.agg #[.int .i64 a0_0, .slice A0_1 l0_1.length c0_1, .slice A0_2 l0_2.length c0_2]] w fun e w' => e = .returned (.bool r) ∧ Below w.heap.size w w' := by
 have hu24 := Try.underlying24
 have HR0_1 := aM hr0_1
 have HC0_1 := aM hc0_1
 clear hr0_1 hc0_1
 have HR0_2 := aM hr0_2
 have HC0_2 := aM hc0_2
 clear hr0_2 hc0_2
 have HB := aM (Below.refl w.heap.size w)
 have H : ((view_right.f k a0_0 l0_1 l0_2).bind fun t293 => (if t293 = true then (view_Row.l0 k 1 (wrap64 ((l0_1.length : Int) - 1)) a0_0 l0_1 l0_2) else (some false))) = some r := h
 clear h
 replace H := Option.bind_eq_some_iff.mp H
 obtain ⟨t293, A20, H⟩ := H
 try dsimp only at H
 have A2 := aM A20
 clear A20
 by_cases c3 : t293 = true
 rotate_left
 ·replace c3 := Bool.eq_false_iff.mpr c3
  subst c3
  rw [if_neg (show ¬ (false = true) by decide)] at H
  obtain rfl := Option.some.inj H
  go_enter Try.func18, Try.ntmps18
  go_wp2_with (first | ((with_reducible refine gate_dst (N := 1) rfl ?_); refine box_event ?hg (N := 1) ?hd (cs := #[.int .i64 a0_0, .slice A0_1 l0_1.length c0_1, .slice A0_2 l0_2.length c0_2]) (t := 24) ?hr ?_; (case hd => rfl); (case hg => rfl); (case hr => first | (go_simp; done) | (go_simp; rfl)); intro gb292 hg w17 hbox hb; have BK292 := aM (hbox); have GW292 := gE (w := w) hg (qB HB); have GE292 := GW292; replace HB := bS (qB HB) hb; clear hb hbox hg; obtain ⟨hcz18_0, hcz18_1, hcz18_2, hfz18_0, hfz18_1, hfz18_2⟩ := blk3 BK292.out) | ((with_reducible refine gate_callee (f := 39) rfl ?_); refine goesL_ (some 6) rfl rfl Try.func39 (by kernel_rfl) rfl #[.agg #[.int .i64 a0_0, .slice A0_1 l0_1.length c0_1, .slice A0_2 l0_2.length c0_2]] rfl pA ?_; (with_reducible refine (view_right.calls k a0_0 _ _ l0_1 _ _ l0_2 false _ ?s1 ?s2 ?s3 ?s4 A2.out).mono ?_); (case s1 => exact sC HR0_1 HB); (case s2 => exact HC0_1.out); (case s3 => exact sC HR0_2 HB); (case s4 => exact HC0_2.out); rintro e w19 ⟨rfl, hb⟩; refine ⟨_, rfl, ?_⟩; replace BK292 := bK BK292 hb; replace HB := bS (qB1 HB GE292) hb; (try clear hb); (try clear hk); (try clear hi)))
  go_ret
  exact ⟨pE, qB1 HB GE292⟩
 subst c3
 rw [if_pos rfl] at H
 have H' := aM H
 clear H
 go_enter Try.func18, Try.ntmps18
 go_wp2_with (first | ((with_reducible refine gate_dst (N := 1) rfl ?_); refine box_event ?hg (N := 1) ?hd (cs := #[.int .i64 a0_0, .slice A0_1 l0_1.length c0_1, .slice A0_2 l0_2.length c0_2]) (t := 24) ?hr ?_; (case hd => rfl); (case hg => rfl); (case hr => first | (go_simp; done) | (go_simp; rfl)); intro gb292 hg w4 hbox hb; have BK292 := aM (hbox); have GW292 := gE (w := w) hg (qB HB); have GE292 := GW292; replace HB := bS (qB HB) hb; clear hb hbox hg; obtain ⟨hcz5_0, hcz5_1, hcz5_2, hfz5_0, hfz5_1, hfz5_2⟩ := blk3 BK292.out) | ((with_reducible refine gate_callee (f := 39) rfl ?_); refine goesL_ (some 6) rfl rfl Try.func39 (by kernel_rfl) rfl #[.agg #[.int .i64 a0_0, .slice A0_1 l0_1.length c0_1, .slice A0_2 l0_2.length c0_2]] rfl pA ?_; (with_reducible refine (view_right.calls k a0_0 _ _ l0_1 _ _ l0_2 true _ ?s1 ?s2 ?s3 ?s4 A2.out).mono ?_); (case s1 => exact sC HR0_1 HB); (case s2 => exact HC0_1.out); (case s3 => exact sC HR0_2 HB); (case s4 => exact HC0_2.out); rintro e w6 ⟨rfl, hb⟩; refine ⟨_, rfl, ?_⟩; replace BK292 := bK BK292 hb; replace HB := bS (qB1 HB GE292) hb; (try clear hb); (try clear hk); (try clear hi); obtain ⟨hcz7_0, hcz7_1, hcz7_2, hfz7_0, hfz7_1, hfz7_2⟩ := blk3 BK292.out))
 go_loopg [3, 4] k (fun kq v3 v4 w' => ∃ (x3_1 : Int) (x4_1 : Int), v3 = .int .i64 x3_1 ∧ v4 = .int .i64 x4_1 ∧ Aside0 (view_Row.l0 kq x3_1 x4_1 a0_0 l0_1 l0_2 = some r) ∧ Aside0 (kq ≤ k) ∧ Aside0 (w'.heap[gb292]? = some (.cells #[.int .i64 a0_0, (.slice A0_1 l0_1.length c0_1), (.slice A0_2 l0_2.length c0_2)] 24 (0, 0))) ∧ Aside0 (Below w.heap.size w w'))
 case atStart => exact ⟨(1), (wrap64 ((l0_1.length : Int) - 1)), (pF), (pF), H', ⟨Nat.le_refl _⟩, ⟨by (with_reducible repeat (first | apply bN | apply bD | apply bA)); exact BK292.out⟩, ⟨qB1 HB GE292⟩⟩
 case round =>
  clear H'
  try clear c3
  try clear hcz5_0 hcz5_1 hcz5_2 hcz7_0 hcz7_1 hcz7_2 hfz5_0 hfz5_1 hfz5_2 hfz7_0 hfz7_1 hfz7_2
  obtain ⟨x3_1, x4_1, rfl, rfl, HA, HK1, BK292, HB⟩ := hrel
  cases gk with
  | zero => exact absurd HA.out (by simp [view_Row.l0])
  | succ k1 =>
   have H := HA.out
   clear HA
   simp only [view_Row.l0] at H
   by_cases c8 : x4_1 ≥ 0
   rotate_left
   ·rw [if_neg c8] at H
    have c8b0 : decide (0 ≤ x4_1) = false := decide_eq_false c8
    clear c8
    obtain rfl := Option.some.inj H
    go_wp2
    go_ret
    exact ⟨pE, qB1 HB GE292⟩
   rw [if_pos c8] at H
   have c8b0 : decide (0 ≤ x4_1) = true := decide_eq_true c8
   clear c8
   by_cases c9 : 0 ≤ x4_1
   rotate_left
   ·rw [if_neg c9] at H
    exact absurd H (by simp)
   rw [if_pos c9] at H
   have c9b0 : decide (0 ≤ x4_1) = true := decide_eq_true c9
   clear c9
   by_cases c10 : x4_1 < (l0_1.length : Int)
   rotate_left
   ·rw [if_neg c10] at H
    exact absurd H (by simp)
   rw [if_pos c10] at H
   have c10b0 : decide (x4_1 < (l0_1.length : Int)) = true := decide_eq_true c10
   clear c10
   by_cases c11 : (rd l0_1 x4_1) > 1
   rotate_left
   ·rw [if_neg c11] at H
    have c11b0 : decide (1 < (rd l0_1 x4_1)) = false := decide_eq_false c11
    clear c11
    have H' := aM H
    clear H
    obtain ⟨hcz16_0, hcz16_1, hcz16_2, hfz16_0, hfz16_1, hfz16_2⟩ := blk3 BK292.out
    have p294 : 0 ≤ (x4_1 : Int) := of_decide_eq_true pD
    have q294 : x4_1 < (l0_1.length : Int) := of_decide_eq_true pD
    obtain ⟨ad294, e294, hx294_0⟩ := Kd.at_int HR0_1.out x4_1 p294 q294
    cases e294
    replace hx294_0 := (HB.out.cell (World.block_lt_of_cell? w _ hx294_0)).trans hx294_0
    replace p294 := eq_true p294
    replace q294 := eq_true q294
    have p297 : 0 ≤ (x4_1 : Int) := of_decide_eq_true pD
    have q297 : x4_1 < (l0_1.length : Int) := of_decide_eq_true pD
    obtain ⟨ad297, e297, hx297_0⟩ := Kd.at_int HR0_1.out x4_1 p297 q297
    obtain rfl : ad294 = ad297 := (by injection e297)
    replace hx297_0 := (HB.out.cell (World.block_lt_of_cell? w _ hx297_0)).trans hx297_0
    replace p297 := eq_true p297
    replace q297 := eq_true q297
    go_wp2
    go_roundg k1
    case measure => have := HK1.out; omega
    case rel => exact ⟨(wrap64 (x3_1 * (rd l0_1 x4_1))), (wrap64 (x4_1 - 1)), (pF), (pF), H', ⟨by have := HK1.out; omega⟩, ⟨by (with_reducible repeat (first | apply bN | apply bD | apply bA)); exact BK292.out⟩, ⟨qB1 HB GE292⟩⟩
   rw [if_pos c11] at H
   have c11b0 : decide (1 < (rd l0_1 x4_1)) = true := decide_eq_true c11
   clear c11
   by_cases c12 : x4_1 < (l0_2.length : Int)
   rotate_left
   ·rw [if_neg c12] at H
    exact absurd H (by simp)
   rw [if_pos c12] at H
   have c12b0 : decide (x4_1 < (l0_2.length : Int)) = true := decide_eq_true c12
   clear c12
   by_cases c13 : (rd l0_2 x4_1) = x3_1
   rotate_left
   ·rw [if_neg c13] at H
    have c13b0 : ((rd l0_2 x4_1) == x3_1) = false := beq_eq_false_iff_ne.mpr c13
    have c13b1 : ((rd l0_2 x4_1) != x3_1) = true := bne_iff_ne.mpr c13
    obtain rfl := Option.some.inj H
    obtain ⟨hcz15_0, hcz15_1, hcz15_2, hfz15_0, hfz15_1, hfz15_2⟩ := blk3 BK292.out
    have p294 : 0 ≤ (x4_1 : Int) := of_decide_eq_true pD
    have q294 : x4_1 < (l0_1.length : Int) := of_decide_eq_true pD
    obtain ⟨ad294, e294, hx294_0⟩ := Kd.at_int HR0_1.out x4_1 p294 q294
    cases e294
    replace hx294_0 := (HB.out.cell (World.block_lt_of_cell? w _ hx294_0)).trans hx294_0
    replace p294 := eq_true p294
    replace q294 := eq_true q294
    have p295 : 0 ≤ (x4_1 : Int) := of_decide_eq_true pD
    have q295 : x4_1 < (l0_2.length : Int) := of_decide_eq_true pD
    obtain ⟨ad295, e295, hx295_0⟩ := Kd.at_int HR0_2.out x4_1 p295 q295
    cases e295
    replace hx295_0 := (HB.out.cell (World.block_lt_of_cell? w _ hx295_0)).trans hx295_0
    replace p295 := eq_true p295
    replace q295 := eq_true q295
    go_wp2
    go_ret
    exact ⟨pE, qB1 HB GE292⟩
   rw [if_pos c13] at H
   have c13b0 : ((rd l0_2 x4_1) == x3_1) = true := beq_iff_eq.mpr c13
   have c13b1 : ((rd l0_2 x4_1) != x3_1) = false := bne_eq_false_iff_eq.mpr c13
   clear c13
   have H' := aM H
   clear H
   obtain ⟨hcz14_0, hcz14_1, hcz14_2, hfz14_0, hfz14_1, hfz14_2⟩ := blk3 BK292.out
   have p294 : 0 ≤ (x4_1 : Int) := of_decide_eq_true pD
   have q294 : x4_1 < (l0_1.length : Int) := of_decide_eq_true pD
   obtain ⟨ad294, e294, hx294_0⟩ := Kd.at_int HR0_1.out x4_1 p294 q294
   cases e294
   replace hx294_0 := (HB.out.cell (World.block_lt_of_cell? w _ hx294_0)).trans hx294_0
   replace p294 := eq_true p294
   replace q294 := eq_true q294
   have p295 : 0 ≤ (x4_1 : Int) := of_decide_eq_true pD
   have q295 : x4_1 < (l0_2.length : Int) := of_decide_eq_true pD
   obtain ⟨ad295, e295, hx295_0⟩ := Kd.at_int HR0_2.out x4_1 p295 q295
   cases e295
   replace hx295_0 := (HB.out.cell (World.block_lt_of_cell? w _ hx295_0)).trans hx295_0
   replace p295 := eq_true p295
   replace q295 := eq_true q295
   have p296 : 0 ≤ (x4_1 : Int) := of_decide_eq_true pD
   have q296 : x4_1 < (l0_1.length : Int) := of_decide_eq_true pD
   obtain ⟨ad296, e296, hx296_0⟩ := Kd.at_int HR0_1.out x4_1 p296 q296
   obtain rfl : ad294 = ad296 := (by injection e296)
   replace hx296_0 := (HB.out.cell (World.block_lt_of_cell? w _ hx296_0)).trans hx296_0
   replace p296 := eq_true p296
   replace q296 := eq_true q296
   go_wp2
   go_roundg k1
   case measure => have := HK1.out; omega
   case rel => exact ⟨(wrap64 (x3_1 * (rd l0_1 x4_1))), (wrap64 (x4_1 - 1)), (pF), (pF), H', ⟨by have := HK1.out; omega⟩, ⟨by (with_reducible repeat (first | apply bN | apply bD | apply bA)); exact BK292.out⟩, ⟨qB1 HB GE292⟩⟩
def view_Reshape.f (k : Nat) (a0_0 : Int) (l0_1 : List Int) (l0_2 : List Int) (l1 : List Int) : Option (Int × List Int × List Int × Int) := (view_right.f k a0_0 l0_1 l0_2).bind fun t455 => (if t455 = true then ((shape_Check.f l1).bind fun t456 => (if t456 = 0 then ((shape_Count.f k l1).bind fun t457 => ((shape_Count.f k l0_1).bind fun t458 => (if t457 = t458 then ((view_Row.f k a0_0 l0_1 l0_2).bind fun t459 => (if t459 = true then ((slices_Clone_int_int.f l1).bind fun t460 => ((shape_Steps.f k l1).bind fun t463 => (some (a0_0, t460, t463, 0)))) else (some (0, ([] : List Int), ([] : List Int), 19)))) else (some (0, ([] : List Int), ([] : List Int), 8))))) else (some (0, ([] : List Int), ([] : List Int), t456)))) else (some (0, ([] : List Int), ([] : List Int), 1)))
def view_Reshape.T10 : Bool × List (List Nat × List Nat) := (true, [([], []), ([0], [0]), ([], []), ([2], [2]), ([], []), ([4, 3], [4]), ([1, 3, 5], [1, 3, 5]), ([6, 5, 0, 1, 2, 3, 4, 5, 6], [6]), ([7, 0, 1, 2, 3, 4, 5, 6, 7], [])])
def view_Reshape.B10 : List Nat := [0, 1, 0, 4, 0, 28, 63, 127, 255]
theorem view_Reshape.tab10 : rtab .any (opsOf Try.f47 10) = view_Reshape.T10 := by kernel_rfl
theorem view_Reshape.bits10 : waitsOk view_Reshape.T10.2 view_Reshape.B10 = true := by kernel_rfl
set_option maxHeartbeats 8000000 in
set_option maxRecDepth 100000 in
theorem view_Reshape.calls (k : Nat) (a0_0 : Int) (A0_1 : Option Addr) (c0_1 : Nat) (l0_1 : List Int) (A0_2 : Option Addr) (c0_2 : Nat) (l0_2 : List Int) (A1 : Option Addr) (c1 : Nat) (l1 : List Int) (r1 : Int) (r2 : List Int) (r3 : List Int) (r4 : Int) (w : World) (hr0_1 : Kd.C (Kd.int .i64) w A0_1 l0_1.length l0_1) (hc0_1 : l0_1.length ≤ c0_1) (hr0_2 : Kd.C (Kd.int .i64) w A0_2 l0_2.length l0_2) (hc0_2 : l0_2.length ≤ c0_2) (hr1 : Kd.C (Kd.int .i64) w A1 l1.length l1) (hc1 : l1.length ≤ c1) (h : view_Reshape.f k a0_0 l0_1 l0_2 l1 = some (r1, r2, r3, r4)) :
  Calls Try.prog 47 #[.agg #[.int .i64 a0_0, .slice A0_1 l0_1.length c0_1, .slice A0_2 l0_2.length c0_2], .slice A1 l1.length c1] w fun e w' => ∃ v1_ v2_ : Value, e = .returned (.tuple #[.agg #[.int .i64 r1, v1_, v2_], .int .i64 r4]) ∧ Kd.R (Kd.int .i64) 3 w' w.heap.size (fun k_ => some k_ ≠ (v2_ : Value).ownBlock) v1_ r2 ∧ Kd.R (Kd.int .i64) 3 w' w.heap.size (fun k_ => some k_ ≠ (v1_ : Value).ownBlock) v2_ r3 ∧ Below w.heap.size w w' := by
 have hu24 := Try.underlying24
 have HR0_1 := aM hr0_1
 have HC0_1 := aM hc0_1
 clear hr0_1 hc0_1
 have HR0_2 := aM hr0_2
 have HC0_2 := aM hc0_2
 clear hr0_2 hc0_2
 have HR1 := aM hr1
 have HC1 := aM hc1
 clear hr1 hc1
 have HB := aM (Below.refl w.heap.size w)
 have H : ((view_right.f k a0_0 l0_1 l0_2).bind fun t455 => (if t455 = true then ((shape_Check.f l1).bind fun t456 => (if t456 = 0 then ((shape_Count.f k l1).bind fun t457 => ((shape_Count.f k l0_1).bind fun t458 => (if t457 = t458 then ((view_Row.f k a0_0 l0_1 l0_2).bind fun t459 => (if t459 = true then ((slices_Clone_int_int.f l1).bind fun t460 => ((shape_Steps.f k l1).bind fun t463 => (some (a0_0, t460, t463, 0)))) else (some (0, ([] : List Int), ([] : List Int), 19)))) else (some (0, ([] : List Int), ([] : List Int), 8))))) else (some (0, ([] : List Int), ([] : List Int), t456)))) else (some (0, ([] : List Int), ([] : List Int), 1)))) = some (r1, r2, r3, r4) := h
 clear h
 replace H := Option.bind_eq_some_iff.mp H
 obtain ⟨t455, A30, H⟩ := H
 try dsimp only at H
 have A3 := aM A30
 clear A30
 by_cases c4 : t455 = true
 rotate_left
 ·replace c4 := Bool.eq_false_iff.mpr c4
  subst c4
  rw [if_neg (show ¬ (false = true) by decide)] at H
  simp only [Option.some.injEq, Prod.mk.injEq] at H
  obtain ⟨rfl, rfl, rfl, rfl⟩ := H
  go_enter Try.func47, Try.ntmps47
  go_wp2_with (first | ((with_reducible refine gate_dst (N := 2) rfl ?_); refine box_event ?hg (N := 2) ?hd (cs := #[.int .i64 a0_0, .slice A0_1 l0_1.length c0_1, .slice A0_2 l0_2.length c0_2]) (t := 24) ?hr ?_; (case hd => rfl); (case hg => rfl); (case hr => first | (go_simp; done) | (go_simp; rfl)); intro gb453 hg w52 hbox hb; have BK453 := aM (hbox); have GW453 := gE (w := w) hg (qB HB); have GE453 := GW453; replace HB := bS (qB HB) hb; clear hb hbox hg) | ((with_reducible refine gate_dst (N := 4) rfl ?_); refine box_event ?hg (N := 4) ?hd (cs := #[.int .i64 0, .slice none 0 0, .slice none 0 0]) (t := 24) ?hr ?_; (case hd => rfl); (case hg => rfl); (case hr => first | (go_simp; done) | (go_simp; rfl)); intro gb454 hg w53 hbox hb; have BK454 := aM (hbox); have GW454 := gE (w := w) hg (qB1 HB GE453); have GE454 := GW454; replace HB := bS (qB1 HB GE453) hb; have NB453_454 := nL hg BK453; have NB454_453 := nG hg BK453; replace BK453 := bK BK453 hb; clear hb hbox hg; have hnb54 := NB453_454.out; have hnc54 := NB454_453.out; obtain ⟨hcz55_0, hcz55_1, hcz55_2, hfz55_0, hfz55_1, hfz55_2⟩ := blk3 BK453.out) | ((with_reducible refine gate_callee (f := 39) rfl ?_); refine goesL_ (some 8) rfl rfl Try.func39 (by kernel_rfl) rfl #[.agg #[.int .i64 a0_0, .slice A0_1 l0_1.length c0_1, .slice A0_2 l0_2.length c0_2]] rfl pA ?_; (with_reducible refine (view_right.calls k a0_0 _ _ l0_1 _ _ l0_2 false _ ?s1 ?s2 ?s3 ?s4 A3.out).mono ?_); (case s1 => exact sC HR0_1 HB); (case s2 => exact HC0_1.out); (case s3 => exact sC HR0_2 HB); (case s4 => exact HC0_2.out); rintro e w56 ⟨rfl, hb⟩; refine ⟨_, rfl, ?_⟩; replace BK453 := bK BK453 hb; replace BK454 := bK BK454 hb; replace HB := bS (qB2 HB GE453 GE454) hb; (try clear hb); (try clear hk); (try clear hi); obtain ⟨hcz57_0, hcz57_1, hcz57_2, hfz57_0, hfz57_1, hfz57_2⟩ := blk3 BK454.out))
  refine bodyPost_ret (results_ct rfl _ _ gb454 24 #[.int .i64 0, .slice none 0 0, .slice none 0 0] (0, 0) _ rfl (by exact P3 BK454) Try.underlying24 rfl (by kernel_rfl)) rfl ?_
  exact ⟨_, _, pE, pN, pN, qB2 HB GE453 GE454⟩
 subst c4
 rw [if_pos rfl] at H
 replace H := Option.bind_eq_some_iff.mp H
 obtain ⟨t456, A50, H⟩ := H
 try dsimp only at H
 have A5 := aM A50
 clear A50
 by_cases c6 : t456 = 0
 rotate_left
 ·rw [if_neg c6] at H
  have c6b0 : (t456 == 0) = false := beq_eq_false_iff_ne.mpr c6
  have c6b1 : (t456 != 0) = true := bne_iff_ne.mpr c6
  simp only [Option.some.injEq, Prod.mk.injEq] at H
  obtain ⟨rfl, rfl, rfl, rfl⟩ := H
  go_enter Try.func47, Try.ntmps47
  go_wp2_with (first | ((with_reducible refine gate_dst (N := 2) rfl ?_); refine box_event ?hg (N := 2) ?hd (cs := #[.int .i64 a0_0, .slice A0_1 l0_1.length c0_1, .slice A0_2 l0_2.length c0_2]) (t := 24) ?hr ?_; (case hd => rfl); (case hg => rfl); (case hr => first | (go_simp; done) | (go_simp; rfl)); intro gb453 hg w46 hbox hb; have BK453 := aM (hbox); have GW453 := gE (w := w) hg (qB HB); have GE453 := GW453; replace HB := bS (qB HB) hb; clear hb hbox hg) | ((with_reducible refine gate_dst (N := 4) rfl ?_); refine box_event ?hg (N := 4) ?hd (cs := #[.int .i64 0, .slice none 0 0, .slice none 0 0]) (t := 24) ?hr ?_; (case hd => rfl); (case hg => rfl); (case hr => first | (go_simp; done) | (go_simp; rfl)); intro gb454 hg w47 hbox hb; have BK454 := aM (hbox); have GW454 := gE (w := w) hg (qB1 HB GE453); have GE454 := GW454; replace HB := bS (qB1 HB GE453) hb; have NB453_454 := nL hg BK453; have NB454_453 := nG hg BK453; replace BK453 := bK BK453 hb; clear hb hbox hg; have hnb48 := NB453_454.out; have hnc48 := NB454_453.out; obtain ⟨hcz49_0, hcz49_1, hcz49_2, hfz49_0, hfz49_1, hfz49_2⟩ := blk3 BK453.out) | ((with_reducible refine gate_callee (f := 39) rfl ?_); refine goesL_ (some 8) rfl rfl Try.func39 (by kernel_rfl) rfl #[.agg #[.int .i64 a0_0, .slice A0_1 l0_1.length c0_1, .slice A0_2 l0_2.length c0_2]] rfl pA ?_; (with_reducible refine (view_right.calls k a0_0 _ _ l0_1 _ _ l0_2 true _ ?s1 ?s2 ?s3 ?s4 A3.out).mono ?_); (case s1 => exact sC HR0_1 HB); (case s2 => exact HC0_1.out); (case s3 => exact sC HR0_2 HB); (case s4 => exact HC0_2.out); rintro e w50 ⟨rfl, hb⟩; refine ⟨_, rfl, ?_⟩; replace BK453 := bK BK453 hb; replace BK454 := bK BK454 hb; replace HB := bS (qB2 HB GE453 GE454) hb; (try clear hb); (try clear hk); (try clear hi)) | ((with_reducible refine gate_callee (f := 41) rfl ?_); refine goesL_ (some 12) rfl rfl Try.func41 (by kernel_rfl) rfl #[.slice A1 l1.length c1] rfl pA ?_; (with_reducible refine (shape_Check.calls _ _ l1 t456 _ ?s1 ?s2 A5.out).mono ?_); (case s1 => exact sC HR1 HB); (case s2 => exact HC1.out); rintro e w' ⟨rfl, ⟨nd, rfl⟩⟩; refine ⟨_, rfl, ?_⟩; (try (rw [drewN_self w50]; generalize hq_ : World.drewN w50 _ = w50; have n0_ : Aside0 (w50.heap[gb453]? = some (.cells #[.int .i64 a0_0, .slice A0_1 l0_1.length c0_1, .slice A0_2 l0_2.length c0_2] 24 (0, 0))) := ⟨by rw [← hq_]; exact (pK BK453.out)⟩; have n1_ : Aside0 (w50.heap[gb454]? = some (.cells #[.int .i64 0, .slice none 0 0, .slice none 0 0] 24 (0, 0))) := ⟨by rw [← hq_]; exact (pK BK454.out)⟩; have n2_ : Aside0 (Below w.heap.size w w50) := ⟨by rw [← hq_]; exact (qB2 HB GE453 GE454)⟩; clear BK453 BK454 HB hq_; have BK453 := n0_; have BK454 := n1_; have HB := n2_; clear n0_ n1_ n2_)); obtain ⟨hcz51_0, hcz51_1, hcz51_2, hfz51_0, hfz51_1, hfz51_2⟩ := blk3 BK454.out))
  refine bodyPost_ret (results_ct rfl _ _ gb454 24 #[.int .i64 0, .slice none 0 0, .slice none 0 0] (0, 0) _ rfl (by exact P3 BK454) Try.underlying24 rfl (by kernel_rfl)) rfl ?_
  exact ⟨_, _, pE, pN, pN, qB2 HB GE453 GE454⟩
 rw [if_pos c6] at H
 have c6b0 : (t456 == 0) = true := beq_iff_eq.mpr c6
 have c6b1 : (t456 != 0) = false := bne_eq_false_iff_eq.mpr c6
 clear c6
 replace H := Option.bind_eq_some_iff.mp H
 obtain ⟨t457, A70, H⟩ := H
 try dsimp only at H
 have A7 := aM A70
 clear A70
 replace H := Option.bind_eq_some_iff.mp H
 obtain ⟨t458, A80, H⟩ := H
 try dsimp only at H
 have A8 := aM A80
 clear A80
 by_cases c9 : t457 = t458
 rotate_left
 ·rw [if_neg c9] at H
  have c9b0 : (t457 == t458) = false := beq_eq_false_iff_ne.mpr c9
  have c9b1 : (t457 != t458) = true := bne_iff_ne.mpr c9
  simp only [Option.some.injEq, Prod.mk.injEq] at H
  obtain ⟨rfl, rfl, rfl, rfl⟩ := H
  go_enter Try.func47, Try.ntmps47
  try go_wp2_with (first | ((with_reducible refine gate_dst (N := 2) rfl ?_); refine box_event ?hg (N := 2) ?hd (cs := #[.int .i64 a0_0, .slice A0_1 l0_1.length c0_1, .slice A0_2 l0_2.length c0_2]) (t := 24) ?hr ?_; (case hd => rfl); (case hg => rfl); (case hr => first | (go_simp; done) | (go_simp; rfl)); intro gb453 hg w39 hbox hb; have BK453 := aM (hbox); have GW453 := gE (w := w) hg (qB HB); have GE453 := GW453; replace HB := bS (qB HB) hb; clear hb hbox hg) | ((with_reducible refine gate_dst (N := 4) rfl ?_); refine box_event ?hg (N := 4) ?hd (cs := #[.int .i64 0, .slice none 0 0, .slice none 0 0]) (t := 24) ?hr ?_; (case hd => rfl); (case hg => rfl); (case hr => first | (go_simp; done) | (go_simp; rfl)); intro gb454 hg w40 hbox hb; have BK454 := aM (hbox); have GW454 := gE (w := w) hg (qB1 HB GE453); have GE454 := GW454; replace HB := bS (qB1 HB GE453) hb; have NB453_454 := nL hg BK453; have NB454_453 := nG hg BK453; replace BK453 := bK BK453 hb; clear hb hbox hg; have hnb41 := NB453_454.out; have hnc41 := NB454_453.out; obtain ⟨hcz42_0, hcz42_1, hcz42_2, hfz42_0, hfz42_1, hfz42_2⟩ := blk3 BK453.out) | ((with_reducible refine gate_callee (f := 39) rfl ?_); refine goesL_ (some 8) rfl rfl Try.func39 (by kernel_rfl) rfl #[.agg #[.int .i64 a0_0, .slice A0_1 l0_1.length c0_1, .slice A0_2 l0_2.length c0_2]] rfl pA ?_; (with_reducible refine (view_right.calls k a0_0 _ _ l0_1 _ _ l0_2 true _ ?s1 ?s2 ?s3 ?s4 A3.out).mono ?_); (case s1 => exact sC HR0_1 HB); (case s2 => exact HC0_1.out); (case s3 => exact sC HR0_2 HB); (case s4 => exact HC0_2.out); rintro e w43 ⟨rfl, hb⟩; refine ⟨_, rfl, ?_⟩; replace BK453 := bK BK453 hb; replace BK454 := bK BK454 hb; replace HB := bS (qB2 HB GE453 GE454) hb; (try clear hb); (try clear hk); (try clear hi)) | ((with_reducible refine gate_callee (f := 41) rfl ?_); refine goesL_ (some 12) rfl rfl Try.func41 (by kernel_rfl) rfl #[.slice A1 l1.length c1] rfl pA ?_; (with_reducible refine (shape_Check.calls _ _ l1 t456 _ ?s1 ?s2 A5.out).mono ?_); (case s1 => exact sC HR1 HB); (case s2 => exact HC1.out); rintro e w' ⟨rfl, ⟨nd, rfl⟩⟩; refine ⟨_, rfl, ?_⟩; (try (rw [drewN_self w43]; generalize hq_ : World.drewN w43 _ = w43; have n0_ : Aside0 (w43.heap[gb453]? = some (.cells #[.int .i64 a0_0, .slice A0_1 l0_1.length c0_1, .slice A0_2 l0_2.length c0_2] 24 (0, 0))) := ⟨by rw [← hq_]; exact (pK BK453.out)⟩; have n1_ : Aside0 (w43.heap[gb454]? = some (.cells #[.int .i64 0, .slice none 0 0, .slice none 0 0] 24 (0, 0))) := ⟨by rw [← hq_]; exact (pK BK454.out)⟩; have n2_ : Aside0 (Below w.heap.size w w43) := ⟨by rw [← hq_]; exact (qB2 HB GE453 GE454)⟩; clear BK453 BK454 HB hq_; have BK453 := n0_; have BK454 := n1_; have HB := n2_; clear n0_ n1_ n2_))))
  replace BK453 := aM (blk_drew BK453.out)
  replace BK454 := aM (blk_drew BK454.out)
  replace HB := aM (below_drew1 HB.out)
  refine start_ (n := 6) (S := fun w' => w'.cell? ⟨gb453, 0, none⟩ = some (.int .i64 a0_0) ∧ w'.cell? ⟨gb453, 1, none⟩ = some (.slice A0_1 l0_1.length c0_1) ∧ w'.cell? ⟨gb453, 2, none⟩ = some (.slice A0_2 l0_2.length c0_2)) (ds := []) #[false, false, false, false, false, false] (by kernel_rfl) rfl rfl ⟨(blk_cell BK453.out 0).trans rfl, (blk_cell BK453.out 1).trans rfl, (blk_cell BK453.out 2).trans rfl⟩ (fun hHeld => ?_)
  generalize w43.drew = w44 at BK453 BK454 HB hHeld ⊢
  refine pure_ (i := 0) (N := some 17) (v := ?_) (a' := ?_) #[true, false, false, false, false, false] rfl rfl (by kernel_rfl) (fun _ _ _ h => h) (Or.inl ⟨by rfl, ?_⟩) ?_ ?_
  rotate_left
  ·intro w'
   go_simp
   with_reducible rfl
  rotate_left
  ·simp only [Act.put, sP, i64_w, i32_w]
   rfl
  refine pure_ (i := 2) (N := some 19) (v := ?_) (a' := ?_) #[true, false, true, false, false, false] rfl rfl (by kernel_rfl) (fun _ _ _ h => h) (Or.inl ⟨by rfl, ?_⟩) ?_ ?_
  rotate_left
  ·intro w'
   go_simp
   with_reducible rfl
  rotate_left
  ·simp only [Act.put, sP, i64_w, i32_w]
   rfl
  refine take_ (i := 3) (N := some 20) (v := ?_) (a' := ?_) #[true, false, true, true, false, false] rfl rfl (by kernel_rfl) (fun _ _ _ h => h) (Or.inl ⟨by rfl, ?_⟩) hHeld ?_ ?_
  rotate_left
  ·rintro w' ⟨s0, s1, s2⟩
   go_simp
   with_reducible rfl
  rotate_left
  ·simp only [Act.put, sP, i64_w, i32_w]
   rfl
  refine one_ (i := 1) (N := some 18) #[true, true, true, true, false, false] rfl rfl (by kernel_rfl) (by decide) (fun K hK => ?_)
  refine goes_ Try.func54 (by kernel_rfl) rfl #[.slice A1 l1.length c1] (by rfl) rfl rfl pA ?_
  with_reducible refine (shape_Count.calls k _ _ l1 t457 _ ?s1 ?s2 A7.out).mono ?_
  (case s1 => exact sC HR1 HB)
  (case s2 => exact HC1.out)
  rintro e w' ⟨rfl, ⟨nd, rfl⟩⟩
  refine ⟨_, rfl, ?_⟩
  refine hK.out _ _ ⟨(blk_cell BK453.out 0).trans rfl, (blk_cell BK453.out 1).trans rfl, (blk_cell BK453.out 2).trans rfl⟩ (fun hHeld => ?_)
  clear hK K
  refine norm_ (a' := ?_) ?_ ?_
  rotate_left
  ·show Act.put _ (some 18) _ = _
   simp only [Act.put, sP, i64_w, i32_w]
   rfl
  refine one_ (i := 4) (N := some 21) #[true, true, true, true, true, false] rfl rfl (by kernel_rfl) (by decide) (fun K hK => ?_)
  refine goes_ Try.func54 (by kernel_rfl) rfl #[.slice A0_1 l0_1.length c0_1] (by rfl) rfl rfl pA ?_
  with_reducible refine (shape_Count.calls k _ _ l0_1 t458 _ ?s1 ?s2 A8.out).mono ?_
  (case s1 => exact pC (Kd.C_below HR0_1.out (qB2 HB GE453 GE454)))
  (case s2 => exact HC0_1.out)
  rintro e w' ⟨rfl, ⟨nd, rfl⟩⟩
  refine ⟨_, rfl, ?_⟩
  refine hK.out _ _ ⟨(blk_cell BK453.out 0).trans rfl, (blk_cell BK453.out 1).trans rfl, (blk_cell BK453.out 2).trans rfl⟩ (fun hHeld => ?_)
  clear hK K
  refine norm_ (a' := ?_) ?_ ?_
  rotate_left
  ·show Act.put _ (some 21) _ = _
   simp only [Act.put, sP, i64_w, i32_w]
   rfl
  refine pure_ (i := 5) (N := some 22) (v := ?_) (a' := ?_) #[true, true, true, true, true, true] rfl rfl (by kernel_rfl) (fun _ _ _ h => h) (Or.inl ⟨by rfl, ?_⟩) ?_ ?_
  rotate_left
  ·intro w'
   go_simp
   with_reducible rfl
  rotate_left
  ·simp only [Act.put, sP, i64_w, i32_w]
   rfl
  refine done_ (by kernel_rfl) ?_
  obtain ⟨hcz45_0, hcz45_1, hcz45_2, hfz45_0, hfz45_1, hfz45_2⟩ := blk3 BK454.out
  try go_wp2
  refine bodyPost_ret (results_ct rfl _ _ gb454 24 #[.int .i64 0, .slice none 0 0, .slice none 0 0] (0, 0) _ rfl (by exact P3 BK454) Try.underlying24 rfl (by kernel_rfl)) rfl ?_
  exact ⟨_, _, pE, pN, pN, qB2 HB GE453 GE454⟩
 rw [if_pos c9] at H
 have c9b0 : (t457 == t458) = true := beq_iff_eq.mpr c9
 have c9b1 : (t457 != t458) = false := bne_eq_false_iff_eq.mpr c9
 clear c9
 replace H := Option.bind_eq_some_iff.mp H
 obtain ⟨t459, A100, H⟩ := H
 try dsimp only at H
 have A10 := aM A100
 clear A100
 by_cases c11 : t459 = true
 rotate_left
 ·replace c11 := Bool.eq_false_iff.mpr c11
  subst c11
  rw [if_neg (show ¬ (false = true) by decide)] at H
  simp only [Option.some.injEq, Prod.mk.injEq] at H
  obtain ⟨rfl, rfl, rfl, rfl⟩ := H
  go_enter Try.func47, Try.ntmps47
  try go_wp2_with (first | ((with_reducible refine gate_dst (N := 2) rfl ?_); refine box_event ?hg (N := 2) ?hd (cs := #[.int .i64 a0_0, .slice A0_1 l0_1.length c0_1, .slice A0_2 l0_2.length c0_2]) (t := 24) ?hr ?_; (case hd => rfl); (case hg => rfl); (case hr => first | (go_simp; done) | (go_simp; rfl)); intro gb453 hg w30 hbox hb; have BK453 := aM (hbox); have GW453 := gE (w := w) hg (qB HB); have GE453 := GW453; replace HB := bS (qB HB) hb; clear hb hbox hg) | ((with_reducible refine gate_dst (N := 4) rfl ?_); refine box_event ?hg (N := 4) ?hd (cs := #[.int .i64 0, .slice none 0 0, .slice none 0 0]) (t := 24) ?hr ?_; (case hd => rfl); (case hg => rfl); (case hr => first | (go_simp; done) | (go_simp; rfl)); intro gb454 hg w31 hbox hb; have BK454 := aM (hbox); have GW454 := gE (w := w) hg (qB1 HB GE453); have GE454 := GW454; replace HB := bS (qB1 HB GE453) hb; have NB453_454 := nL hg BK453; have NB454_453 := nG hg BK453; replace BK453 := bK BK453 hb; clear hb hbox hg; have hnb32 := NB453_454.out; have hnc32 := NB454_453.out; obtain ⟨hcz33_0, hcz33_1, hcz33_2, hfz33_0, hfz33_1, hfz33_2⟩ := blk3 BK453.out) | ((with_reducible refine gate_callee (f := 39) rfl ?_); refine goesL_ (some 8) rfl rfl Try.func39 (by kernel_rfl) rfl #[.agg #[.int .i64 a0_0, .slice A0_1 l0_1.length c0_1, .slice A0_2 l0_2.length c0_2]] rfl pA ?_; (with_reducible refine (view_right.calls k a0_0 _ _ l0_1 _ _ l0_2 true _ ?s1 ?s2 ?s3 ?s4 A3.out).mono ?_); (case s1 => exact sC HR0_1 HB); (case s2 => exact HC0_1.out); (case s3 => exact sC HR0_2 HB); (case s4 => exact HC0_2.out); rintro e w34 ⟨rfl, hb⟩; refine ⟨_, rfl, ?_⟩; replace BK453 := bK BK453 hb; replace BK454 := bK BK454 hb; replace HB := bS (qB2 HB GE453 GE454) hb; (try clear hb); (try clear hk); (try clear hi)) | ((with_reducible refine gate_callee (f := 41) rfl ?_); refine goesL_ (some 12) rfl rfl Try.func41 (by kernel_rfl) rfl #[.slice A1 l1.length c1] rfl pA ?_; (with_reducible refine (shape_Check.calls _ _ l1 t456 _ ?s1 ?s2 A5.out).mono ?_); (case s1 => exact sC HR1 HB); (case s2 => exact HC1.out); rintro e w' ⟨rfl, ⟨nd, rfl⟩⟩; refine ⟨_, rfl, ?_⟩; (try (rw [drewN_self w34]; generalize hq_ : World.drewN w34 _ = w34; have n0_ : Aside0 (w34.heap[gb453]? = some (.cells #[.int .i64 a0_0, .slice A0_1 l0_1.length c0_1, .slice A0_2 l0_2.length c0_2] 24 (0, 0))) := ⟨by rw [← hq_]; exact (pK BK453.out)⟩; have n1_ : Aside0 (w34.heap[gb454]? = some (.cells #[.int .i64 0, .slice none 0 0, .slice none 0 0] 24 (0, 0))) := ⟨by rw [← hq_]; exact (pK BK454.out)⟩; have n2_ : Aside0 (Below w.heap.size w w34) := ⟨by rw [← hq_]; exact (qB2 HB GE453 GE454)⟩; clear BK453 BK454 HB hq_; have BK453 := n0_; have BK454 := n1_; have HB := n2_; clear n0_ n1_ n2_))))
  replace BK453 := aM (blk_drew BK453.out)
  replace BK454 := aM (blk_drew BK454.out)
  replace HB := aM (below_drew1 HB.out)
  refine start_ (n := 6) (S := fun w' => w'.cell? ⟨gb453, 0, none⟩ = some (.int .i64 a0_0) ∧ w'.cell? ⟨gb453, 1, none⟩ = some (.slice A0_1 l0_1.length c0_1) ∧ w'.cell? ⟨gb453, 2, none⟩ = some (.slice A0_2 l0_2.length c0_2)) (ds := []) #[false, false, false, false, false, false] (by kernel_rfl) rfl rfl ⟨(blk_cell BK453.out 0).trans rfl, (blk_cell BK453.out 1).trans rfl, (blk_cell BK453.out 2).trans rfl⟩ (fun hHeld => ?_)
  generalize w34.drew = w35 at BK453 BK454 HB hHeld ⊢
  refine pure_ (i := 0) (N := some 17) (v := ?_) (a' := ?_) #[true, false, false, false, false, false] rfl rfl (by kernel_rfl) (fun _ _ _ h => h) (Or.inl ⟨by rfl, ?_⟩) ?_ ?_
  rotate_left
  ·intro w'
   go_simp
   with_reducible rfl
  rotate_left
  ·simp only [Act.put, sP, i64_w, i32_w]
   rfl
  refine pure_ (i := 2) (N := some 19) (v := ?_) (a' := ?_) #[true, false, true, false, false, false] rfl rfl (by kernel_rfl) (fun _ _ _ h => h) (Or.inl ⟨by rfl, ?_⟩) ?_ ?_
  rotate_left
  ·intro w'
   go_simp
   with_reducible rfl
  rotate_left
  ·simp only [Act.put, sP, i64_w, i32_w]
   rfl
  refine take_ (i := 3) (N := some 20) (v := ?_) (a' := ?_) #[true, false, true, true, false, false] rfl rfl (by kernel_rfl) (fun _ _ _ h => h) (Or.inl ⟨by rfl, ?_⟩) hHeld ?_ ?_
  rotate_left
  ·rintro w' ⟨s0, s1, s2⟩
   go_simp
   with_reducible rfl
  rotate_left
  ·simp only [Act.put, sP, i64_w, i32_w]
   rfl
  refine one_ (i := 1) (N := some 18) #[true, true, true, true, false, false] rfl rfl (by kernel_rfl) (by decide) (fun K hK => ?_)
  refine goes_ Try.func54 (by kernel_rfl) rfl #[.slice A1 l1.length c1] (by rfl) rfl rfl pA ?_
  with_reducible refine (shape_Count.calls k _ _ l1 t457 _ ?s1 ?s2 A7.out).mono ?_
  (case s1 => exact sC HR1 HB)
  (case s2 => exact HC1.out)
  rintro e w' ⟨rfl, ⟨nd, rfl⟩⟩
  refine ⟨_, rfl, ?_⟩
  refine hK.out _ _ ⟨(blk_cell BK453.out 0).trans rfl, (blk_cell BK453.out 1).trans rfl, (blk_cell BK453.out 2).trans rfl⟩ (fun hHeld => ?_)
  clear hK K
  refine norm_ (a' := ?_) ?_ ?_
  rotate_left
  ·show Act.put _ (some 18) _ = _
   simp only [Act.put, sP, i64_w, i32_w]
   rfl
  refine one_ (i := 4) (N := some 21) #[true, true, true, true, true, false] rfl rfl (by kernel_rfl) (by decide) (fun K hK => ?_)
  refine goes_ Try.func54 (by kernel_rfl) rfl #[.slice A0_1 l0_1.length c0_1] (by rfl) rfl rfl pA ?_
  with_reducible refine (shape_Count.calls k _ _ l0_1 t458 _ ?s1 ?s2 A8.out).mono ?_
  (case s1 => exact pC (Kd.C_below HR0_1.out (qB2 HB GE453 GE454)))
  (case s2 => exact HC0_1.out)
  rintro e w' ⟨rfl, ⟨nd, rfl⟩⟩
  refine ⟨_, rfl, ?_⟩
  refine hK.out _ _ ⟨(blk_cell BK453.out 0).trans rfl, (blk_cell BK453.out 1).trans rfl, (blk_cell BK453.out 2).trans rfl⟩ (fun hHeld => ?_)
  clear hK K
  refine norm_ (a' := ?_) ?_ ?_
  rotate_left
  ·show Act.put _ (some 21) _ = _
   simp only [Act.put, sP, i64_w, i32_w]
   rfl
  refine pure_ (i := 5) (N := some 22) (v := ?_) (a' := ?_) #[true, true, true, true, true, true] rfl rfl (by kernel_rfl) (fun _ _ _ h => h) (Or.inl ⟨by rfl, ?_⟩) ?_ ?_
  rotate_left
  ·intro w'
   go_simp
   with_reducible rfl
  rotate_left
  ·simp only [Act.put, sP, i64_w, i32_w]
   rfl
  refine done_ (by kernel_rfl) ?_
  obtain ⟨hcz36_0, hcz36_1, hcz36_2, hfz36_0, hfz36_1, hfz36_2⟩ := blk3 BK453.out
  try go_wp2_with (first | ((with_reducible refine gate_callee (f := 18) rfl ?_); refine goesL_ (some 25) rfl rfl Try.func18 (by kernel_rfl) rfl #[.agg #[.int .i64 a0_0, .slice A0_1 l0_1.length c0_1, .slice A0_2 l0_2.length c0_2]] rfl pA ?_; (with_reducible refine (view_Row.calls k a0_0 _ _ l0_1 _ _ l0_2 false _ ?s1 ?s2 ?s3 ?s4 A10.out).mono ?_); (case s1 => exact pC (Kd.C_below HR0_1.out (qB2 HB GE453 GE454))); (case s2 => exact HC0_1.out); (case s3 => exact pC (Kd.C_below HR0_2.out (qB2 HB GE453 GE454))); (case s4 => exact HC0_2.out); rintro e w37 ⟨rfl, hb⟩; refine ⟨_, rfl, ?_⟩; replace BK453 := bK BK453 hb; replace BK454 := bK BK454 hb; replace HB := bS (qB2 HB GE453 GE454) hb; (try clear hb); (try clear hk); (try clear hi); obtain ⟨hcz38_0, hcz38_1, hcz38_2, hfz38_0, hfz38_1, hfz38_2⟩ := blk3 BK454.out))
  refine bodyPost_ret (results_ct rfl _ _ gb454 24 #[.int .i64 0, .slice none 0 0, .slice none 0 0] (0, 0) _ rfl (by exact P3 BK454) Try.underlying24 rfl (by kernel_rfl)) rfl ?_
  exact ⟨_, _, pE, pN, pN, qB2 HB GE453 GE454⟩
 subst c11
 rw [if_pos rfl] at H
 replace H := Option.bind_eq_some_iff.mp H
 obtain ⟨t460, A120, H⟩ := H
 try dsimp only at H
 have A12 := aM A120
 clear A120
 replace H := Option.bind_eq_some_iff.mp H
 obtain ⟨t463, A130, H⟩ := H
 try dsimp only at H
 have A13 := aM A130
 clear A130
 simp only [Option.some.injEq, Prod.mk.injEq] at H
 obtain ⟨rfl, rfl, rfl, rfl⟩ := H
 go_enter Try.func47, Try.ntmps47
 try go_wp2_with (first | ((with_reducible refine gate_dst (N := 2) rfl ?_); refine box_event ?hg (N := 2) ?hd (cs := #[.int .i64 a0_0, .slice A0_1 l0_1.length c0_1, .slice A0_2 l0_2.length c0_2]) (t := 24) ?hr ?_; (case hd => rfl); (case hg => rfl); (case hr => first | (go_simp; done) | (go_simp; rfl)); intro gb453 hg w14 hbox hb; have BK453 := aM (hbox); have GW453 := gE (w := w) hg (qB HB); have GE453 := GW453; replace HB := bS (qB HB) hb; clear hb hbox hg) | ((with_reducible refine gate_dst (N := 4) rfl ?_); refine box_event ?hg (N := 4) ?hd (cs := #[.int .i64 0, .slice none 0 0, .slice none 0 0]) (t := 24) ?hr ?_; (case hd => rfl); (case hg => rfl); (case hr => first | (go_simp; done) | (go_simp; rfl)); intro gb454 hg w15 hbox hb; have BK454 := aM (hbox); have GW454 := gE (w := w) hg (qB1 HB GE453); have GE454 := GW454; replace HB := bS (qB1 HB GE453) hb; have NB453_454 := nL hg BK453; have NB454_453 := nG hg BK453; replace BK453 := bK BK453 hb; clear hb hbox hg; have hnb16 := NB453_454.out; have hnc16 := NB454_453.out; obtain ⟨hcz17_0, hcz17_1, hcz17_2, hfz17_0, hfz17_1, hfz17_2⟩ := blk3 BK453.out) | ((with_reducible refine gate_callee (f := 39) rfl ?_); refine goesL_ (some 8) rfl rfl Try.func39 (by kernel_rfl) rfl #[.agg #[.int .i64 a0_0, .slice A0_1 l0_1.length c0_1, .slice A0_2 l0_2.length c0_2]] rfl pA ?_; (with_reducible refine (view_right.calls k a0_0 _ _ l0_1 _ _ l0_2 true _ ?s1 ?s2 ?s3 ?s4 A3.out).mono ?_); (case s1 => exact sC HR0_1 HB); (case s2 => exact HC0_1.out); (case s3 => exact sC HR0_2 HB); (case s4 => exact HC0_2.out); rintro e w18 ⟨rfl, hb⟩; refine ⟨_, rfl, ?_⟩; replace BK453 := bK BK453 hb; replace BK454 := bK BK454 hb; replace HB := bS (qB2 HB GE453 GE454) hb; (try clear hb); (try clear hk); (try clear hi)) | ((with_reducible refine gate_callee (f := 41) rfl ?_); refine goesL_ (some 12) rfl rfl Try.func41 (by kernel_rfl) rfl #[.slice A1 l1.length c1] rfl pA ?_; (with_reducible refine (shape_Check.calls _ _ l1 t456 _ ?s1 ?s2 A5.out).mono ?_); (case s1 => exact sC HR1 HB); (case s2 => exact HC1.out); rintro e w' ⟨rfl, ⟨nd, rfl⟩⟩; refine ⟨_, rfl, ?_⟩; (try (rw [drewN_self w18]; generalize hq_ : World.drewN w18 _ = w18; have n0_ : Aside0 (w18.heap[gb453]? = some (.cells #[.int .i64 a0_0, .slice A0_1 l0_1.length c0_1, .slice A0_2 l0_2.length c0_2] 24 (0, 0))) := ⟨by rw [← hq_]; exact (pK BK453.out)⟩; have n1_ : Aside0 (w18.heap[gb454]? = some (.cells #[.int .i64 0, .slice none 0 0, .slice none 0 0] 24 (0, 0))) := ⟨by rw [← hq_]; exact (pK BK454.out)⟩; have n2_ : Aside0 (Below w.heap.size w w18) := ⟨by rw [← hq_]; exact (qB2 HB GE453 GE454)⟩; clear BK453 BK454 HB hq_; have BK453 := n0_; have BK454 := n1_; have HB := n2_; clear n0_ n1_ n2_))))
 replace BK453 := aM (blk_drew BK453.out)
 replace BK454 := aM (blk_drew BK454.out)
 replace HB := aM (below_drew1 HB.out)
 refine start_ (n := 6) (S := fun w' => w'.cell? ⟨gb453, 0, none⟩ = some (.int .i64 a0_0) ∧ w'.cell? ⟨gb453, 1, none⟩ = some (.slice A0_1 l0_1.length c0_1) ∧ w'.cell? ⟨gb453, 2, none⟩ = some (.slice A0_2 l0_2.length c0_2)) (ds := []) #[false, false, false, false, false, false] (by kernel_rfl) rfl rfl ⟨(blk_cell BK453.out 0).trans rfl, (blk_cell BK453.out 1).trans rfl, (blk_cell BK453.out 2).trans rfl⟩ (fun hHeld => ?_)
 generalize w18.drew = w19 at BK453 BK454 HB hHeld ⊢
 refine pure_ (i := 0) (N := some 17) (v := ?_) (a' := ?_) #[true, false, false, false, false, false] rfl rfl (by kernel_rfl) (fun _ _ _ h => h) (Or.inl ⟨by rfl, ?_⟩) ?_ ?_
 rotate_left
 ·intro w'
  go_simp
  with_reducible rfl
 rotate_left
 ·simp only [Act.put, sP, i64_w, i32_w]
  rfl
 refine pure_ (i := 2) (N := some 19) (v := ?_) (a' := ?_) #[true, false, true, false, false, false] rfl rfl (by kernel_rfl) (fun _ _ _ h => h) (Or.inl ⟨by rfl, ?_⟩) ?_ ?_
 rotate_left
 ·intro w'
  go_simp
  with_reducible rfl
 rotate_left
 ·simp only [Act.put, sP, i64_w, i32_w]
  rfl
 refine take_ (i := 3) (N := some 20) (v := ?_) (a' := ?_) #[true, false, true, true, false, false] rfl rfl (by kernel_rfl) (fun _ _ _ h => h) (Or.inl ⟨by rfl, ?_⟩) hHeld ?_ ?_
 rotate_left
 ·rintro w' ⟨s0, s1, s2⟩
  go_simp
  with_reducible rfl
 rotate_left
 ·simp only [Act.put, sP, i64_w, i32_w]
  rfl
 refine one_ (i := 1) (N := some 18) #[true, true, true, true, false, false] rfl rfl (by kernel_rfl) (by decide) (fun K hK => ?_)
 refine goes_ Try.func54 (by kernel_rfl) rfl #[.slice A1 l1.length c1] (by rfl) rfl rfl pA ?_
 with_reducible refine (shape_Count.calls k _ _ l1 t457 _ ?s1 ?s2 A7.out).mono ?_
 (case s1 => exact sC HR1 HB)
 (case s2 => exact HC1.out)
 rintro e w' ⟨rfl, ⟨nd, rfl⟩⟩
 refine ⟨_, rfl, ?_⟩
 refine hK.out _ _ ⟨(blk_cell BK453.out 0).trans rfl, (blk_cell BK453.out 1).trans rfl, (blk_cell BK453.out 2).trans rfl⟩ (fun hHeld => ?_)
 clear hK K
 refine norm_ (a' := ?_) ?_ ?_
 rotate_left
 ·show Act.put _ (some 18) _ = _
  simp only [Act.put, sP, i64_w, i32_w]
  rfl
 refine one_ (i := 4) (N := some 21) #[true, true, true, true, true, false] rfl rfl (by kernel_rfl) (by decide) (fun K hK => ?_)
 refine goes_ Try.func54 (by kernel_rfl) rfl #[.slice A0_1 l0_1.length c0_1] (by rfl) rfl rfl pA ?_
 with_reducible refine (shape_Count.calls k _ _ l0_1 t458 _ ?s1 ?s2 A8.out).mono ?_
 (case s1 => exact pC (Kd.C_below HR0_1.out (qB2 HB GE453 GE454)))
 (case s2 => exact HC0_1.out)
 rintro e w' ⟨rfl, ⟨nd, rfl⟩⟩
 refine ⟨_, rfl, ?_⟩
 refine hK.out _ _ ⟨(blk_cell BK453.out 0).trans rfl, (blk_cell BK453.out 1).trans rfl, (blk_cell BK453.out 2).trans rfl⟩ (fun hHeld => ?_)
 clear hK K
 refine norm_ (a' := ?_) ?_ ?_
 rotate_left
 ·show Act.put _ (some 21) _ = _
  simp only [Act.put, sP, i64_w, i32_w]
  rfl
 refine pure_ (i := 5) (N := some 22) (v := ?_) (a' := ?_) #[true, true, true, true, true, true] rfl rfl (by kernel_rfl) (fun _ _ _ h => h) (Or.inl ⟨by rfl, ?_⟩) ?_ ?_
 rotate_left
 ·intro w'
  go_simp
  with_reducible rfl
 rotate_left
 ·simp only [Act.put, sP, i64_w, i32_w]
  rfl
 refine done_ (by kernel_rfl) ?_
 obtain ⟨hcz20_0, hcz20_1, hcz20_2, hfz20_0, hfz20_1, hfz20_2⟩ := blk3 BK453.out
 try go_wp2_with (first | ((with_reducible refine gate_callee (f := 18) rfl ?_); refine goesL_ (some 25) rfl rfl Try.func18 (by kernel_rfl) rfl #[.agg #[.int .i64 a0_0, .slice A0_1 l0_1.length c0_1, .slice A0_2 l0_2.length c0_2]] rfl pA ?_; (with_reducible refine (view_Row.calls k a0_0 _ _ l0_1 _ _ l0_2 true _ ?s1 ?s2 ?s3 ?s4 A10.out).mono ?_); (case s1 => exact pC (Kd.C_below HR0_1.out (qB2 HB GE453 GE454))); (case s2 => exact HC0_1.out); (case s3 => exact pC (Kd.C_below HR0_2.out (qB2 HB GE453 GE454))); (case s4 => exact HC0_2.out); rintro e w21 ⟨rfl, hb⟩; refine ⟨_, rfl, ?_⟩; replace BK453 := bK BK453 hb; replace BK454 := bK BK454 hb; replace HB := bS (qB2 HB GE453 GE454) hb; (try clear hb); (try clear hk); (try clear hi)))
 replace BK453 := aM (blk_drew BK453.out)
 replace BK454 := aM (blk_drew BK454.out)
 replace HB := aM (below_drew1 HB.out)
 refine start_ (n := 9) (S := fun w' => w'.cell? ⟨gb453, 0, none⟩ = some (.int .i64 a0_0) ∧ w'.cell? ⟨gb453, 1, none⟩ = some (.slice A0_1 l0_1.length c0_1) ∧ w'.cell? ⟨gb453, 2, none⟩ = some (.slice A0_2 l0_2.length c0_2)) (ds := []) #[false, false, false, false, false, false, false, false, false] (by kernel_rfl) rfl rfl ⟨(blk_cell BK453.out 0).trans rfl, (blk_cell BK453.out 1).trans rfl, (blk_cell BK453.out 2).trans rfl⟩ (fun hHeld => ?_); refine with_tabW view_Reshape.tab10 view_Reshape.bits10 (fun HT_ HW_ => ?_)
 generalize w21.drew = w22 at BK453 BK454 HB hHeld ⊢
 refine pP (i := 0) (N := some 28) #[true, false, false, false, false, false, false, false, false] rfl rfl HT_.out ?_
 refine pP (i := 2) (N := some 30) #[true, false, true, false, false, false, false, false, false] rfl rfl HT_.out ?_
 refine pP (i := 4) (N := some 32) #[true, false, true, false, true, false, false, false, false] rfl rfl HT_.out ?_
 refine pT (i := 1) (N := some 29) #[true, true, true, false, true, false, false, false, false] rfl rfl HT_.out HW_.out hHeld (by rintro w' ⟨s0, s1, s2⟩; go_simp; with_reducible rfl) ?_
 refine one_ (i := 3) (N := some 31) #[true, true, true, true, true, false, false, false, false] rfl rfl (one_of HT_.out (by kernel_rfl)) (by decide) (fun K hK => ?_)
 refine goes_ Try.func43 (by kernel_rfl) rfl #[.slice A1 l1.length c1] (by rfl) rfl rfl pA ?_
 with_reducible refine (slices_Clone_int_int.calls _ _ l1 t460 _ ?s1 ?s2 A12.out).mono ?_
 (case s1 => exact sC HR1 HB)
 (case s2 => exact HC1.out)
 rintro e w23 ⟨v461, rfl, ho0, hb⟩
 refine ⟨_, rfl, ?_⟩
 have HO462 := aM (Kd.R_lower ho0 (below_size (qB2 HB GE453 GE454)))
 replace BK453 := bK BK453 hb
 replace BK454 := bK BK454 hb
 replace HB := bS (qB2 HB GE453 GE454) hb
 (try clear hb)
 (try clear hk)
 (try clear hi)
 (try clear ho0)
 refine hK.out _ _ ⟨(blk_cell BK453.out 0).trans rfl, (blk_cell BK453.out 1).trans rfl, (blk_cell BK453.out 2).trans rfl⟩ (fun hHeld => ?_)
 clear hK K
 refine norm_ (a' := ?_) ?_ ?_
 rotate_left
 ·show Act.put _ (some 31) _ = _
  simp only [Act.put, sP, i64_w, i32_w]
  rfl
 refine one_ (i := 5) (N := some 33) #[true, true, true, true, true, true, false, false, false] rfl rfl (one_of HT_.out (by kernel_rfl)) (by decide) (fun K hK => ?_)
 refine goes_ Try.func44 (by kernel_rfl) rfl #[.slice A1 l1.length c1] (by rfl) rfl rfl pA ?_
 with_reducible refine (shape_Steps.calls k _ _ l1 t463 _ ?s1 ?s2 A13.out).mono ?_
 (case s1 => exact sC HR1 HB)
 (case s2 => exact HC1.out)
 rintro e w24 ⟨v464, rfl, ho0, hb⟩
 refine ⟨_, rfl, ?_⟩
 have HO465 := aM (Kd.R_lower (Kd.R_new' ho0 (Kd.R_lt (pR HO462.out))) (below_size (qB2 HB GE453 GE454)))
 replace HO462 := eR HO462 ho0 hb
 replace BK453 := bK BK453 hb
 replace BK454 := bK BK454 hb
 replace HB := bS (qB2 HB GE453 GE454) hb
 (try clear hb)
 (try clear ho0)
 obtain ⟨Ao25, co25, eo25⟩ := Kd.R_slice HO465.out
 (first | subst eo25 | (injection eo25 with f1_ f2_ f3_; have f4_ := f1_.symm; have f5_ := f3_.symm; clear f1_ f2_ f3_; subst f4_; subst f5_))
 obtain ⟨Ao26, co26, eo26⟩ := Kd.R_slice HO462.out
 (first | subst eo26 | (injection eo26 with f1_ f2_ f3_; have f4_ := f1_.symm; have f5_ := f3_.symm; clear f1_ f2_ f3_; subst f4_; subst f5_))
 refine hK.out _ _ ⟨(blk_cell BK453.out 0).trans rfl, (blk_cell BK453.out 1).trans rfl, (blk_cell BK453.out 2).trans rfl⟩ (fun hHeld => ?_)
 clear hK K
 refine norm_ (a' := ?_) ?_ ?_
 rotate_left
 ·show Act.put _ (some 33) _ = _
  simp only [Act.put, sP, i64_w, i32_w]
  rfl
 refine pP (i := 6) (N := some 34) #[true, true, true, true, true, true, true, false, false] rfl rfl HT_.out ?_
 refine one_ (i := 7) (N := none) #[true, true, true, true, true, true, true, true, false] rfl rfl (one_of HT_.out (by kernel_rfl)) (by decide) (fun K hK => ?_)
 have hs27 : w24.cell? ⟨gb454, 0, none⟩ = some (.int .i64 0) := (blk_cell BK454.out 0).trans rfl
 have hfs27 := blk_frozen BK454.out 0
 have hns27_0 := NB453_454.out
 have hms27_0 := NB454_453.out
 have hs28 : w24.cell? ⟨gb454, 1, none⟩ = some (.slice none 0 0) := (blk_cell BK454.out 1).trans rfl
 have hfs28 := blk_frozen BK454.out 1
 have hns28_0 := NB453_454.out
 have hms28_0 := NB454_453.out
 have hs29 : w24.cell? ⟨gb454, 2, none⟩ = some (.slice none 0 0) := (blk_cell BK454.out 2).trans rfl
 have hfs29 := blk_frozen BK454.out 2
 have hns29_0 := NB453_454.out
 have hms29_0 := NB454_453.out
 refine skip_ (w1 := ?_) (by rfl) rfl ?_ ?_
 rotate_left
 ·go_simp
  rfl
 refine hK.out _ _ ⟨((cell_far (p := ⟨gb454, _, none⟩) NB453_454.out _).trans (((cell_far (p := ⟨gb454, _, none⟩) NB453_454.out _).trans (((cell_far (p := ⟨gb454, _, none⟩) NB453_454.out _).trans (hHeld.1)))))), ((cell_far (p := ⟨gb454, _, none⟩) NB453_454.out _).trans (((cell_far (p := ⟨gb454, _, none⟩) NB453_454.out _).trans (((cell_far (p := ⟨gb454, _, none⟩) NB453_454.out _).trans (hHeld.2.1)))))), ((cell_far (p := ⟨gb454, _, none⟩) NB453_454.out _).trans (((cell_far (p := ⟨gb454, _, none⟩) NB453_454.out _).trans (((cell_far (p := ⟨gb454, _, none⟩) NB453_454.out _).trans (hHeld.2.2))))))⟩ (fun hHeld => ?_)
 clear hK K
 refine pP (i := 8) (N := some 5) #[true, true, true, true, true, true, true, true, true] rfl rfl HT_.out ?_
 refine done_ (done_of HT_.out (by kernel_rfl)) ?_
 try go_wp2
 refine bodyPost_ret (results_ct rfl _ _ gb454 24 #[.int .i64 a0_0, .slice Ao26 t460.length co26, .slice Ao25 t463.length co25] (0, 0) _ rfl (by exact P3 BK454) Try.underlying24 rfl (by kernel_rfl)) rfl ?_
 exact ⟨_, _, pE, by (with_reducible repeat (first | apply rA | apply rN | apply rD)); exact F3 HO462 BK454 (fun _ hk => hk.1.2), by (with_reducible repeat (first | apply rA | apply rN | apply rD)); exact F3 HO465 BK454 (fun _ hk => hk.1.2), qB2 HB GE453 GE454⟩
def gradinelaw22_seen.f (k : Nat) (a0_0 : Int) (l0_1 : List Int) (l0_2 : List Int) (a1 : Int) (a2_0 : Int) (a2_1 : Int) (a2_2 : Int) (a2_3 : Int) (a2_4 : Int) (a2_5 : Int) (a2_6 : Int) (a2_7 : Int) (a2_8 : Bool) (l2_9 : List Int) : Option (Int × List Int × List Int × Int) := if a1 = 33 then ((view_Reshape.f k a0_0 l0_1 l0_2 l2_9).bind fun bt469 => (some (bt469.1, bt469.2.1, bt469.2.2.1, bt469.2.2.2))) else (if a1 = 34 then ((view_Permute.f k a0_0 l0_1 l0_2 l2_9).bind fun bt477 => (some (bt477.1, bt477.2.1, bt477.2.2.1, bt477.2.2.2))) else (if a1 = 35 then ((view_Slice.f k a0_0 l0_1 l0_2 a2_0 a2_1 a2_2 a2_3).bind fun bt485 => (some (bt485.1, bt485.2.1, bt485.2.2.1, bt485.2.2.2))) else (if a1 = 36 then ((view_Expand.f k a0_0 l0_1 l0_2 l2_9).bind fun bt493 => (some (bt493.1, bt493.2.1, bt493.2.2.1, bt493.2.2.2))) else ((view_Flip.f k a0_0 l0_1 l0_2 a2_0).bind fun bt501 => (some (bt501.1, bt501.2.1, bt501.2.2.1, bt501.2.2.2))))))
set_option maxHeartbeats 8000000 in
set_option maxRecDepth 100000 in
theorem gradinelaw22_seen.calls (k : Nat) (a0_0 : Int) (A0_1 : Option Addr) (c0_1 : Nat) (l0_1 : List Int) (A0_2 : Option Addr) (c0_2 : Nat) (l0_2 : List Int) (a1 : Int) (a2_0 : Int) (a2_1 : Int) (a2_2 : Int) (a2_3 : Int) (a2_4 : Int) (a2_5 : Int) (a2_6 : Int) (a2_7 : Int) (a2_8 : Bool) (A2_9 : Option Addr) (c2_9 : Nat) (l2_9 : List Int) (r1 : Int) (r2 : List Int) (r3 : List Int) (r4 : Int) (w : World) (hr0_1 : Kd.C (Kd.int .i64) w A0_1 l0_1.length l0_1) (hc0_1 : l0_1.length ≤ c0_1) (hr0_2 : Kd.C (Kd.int .i64) w A0_2 l0_2.length l0_2) (hc0_2 : l0_2.length ≤ c0_2) (hr2_9 : Kd.C (Kd.int .i64) w A2_9 l2_9.length l2_9) (hc2_9 : l2_9.length ≤ c2_9) (h : gradinelaw22_seen.f k a0_0 l0_1 l0_2 a1 a2_0 a2_1 a2_2 a2_3 a2_4 a2_5 a2_6 a2_7 a2_8 l2_9 = some (r1, r2, r3, r4)) :
  Calls Try.prog 23 #[.agg #[.int .i64 a0_0, .slice A0_1 l0_1.length c0_1, .slice A0_2 l0_2.length c0_2], .int .i64 a1, .agg #[.int .i64 a2_0, .int .i64 a2_1, .int .i64 a2_2, .int .i64 a2_3, .int .i64 a2_4, .int .i64 a2_5, .int .i64 a2_6, .int .i64 a2_7, .bool a2_8, .slice A2_9 l2_9.length c2_9]] w fun e w' => ∃ v1_ v2_ : Value, e = .returned (.tuple #[.agg #[.int .i64 r1, v1_, v2_], .int .i64 r4]) ∧ Kd.R (Kd.int .i64) 3 w' w.heap.size (fun k_ => some k_ ≠ (v2_ : Value).ownBlock) v1_ r2 ∧ Kd.R (Kd.int .i64) 3 w' w.heap.size (fun k_ => some k_ ≠ (v1_ : Value).ownBlock) v2_ r3 ∧ Below w.heap.size w w' := by
 have hu24 := Try.underlying24
 have hu43 := Try.underlying43
 have HR0_1 := aM hr0_1
 have HC0_1 := aM hc0_1
 clear hr0_1 hc0_1
 have HR0_2 := aM hr0_2
 have HC0_2 := aM hc0_2
 clear hr0_2 hc0_2
 have HR2_9 := aM hr2_9
 have HC2_9 := aM hc2_9
 clear hr2_9 hc2_9
 have HB := aM (Below.refl w.heap.size w)
 have H : (if a1 = 33 then ((view_Reshape.f k a0_0 l0_1 l0_2 l2_9).bind fun bt469 => (some (bt469.1, bt469.2.1, bt469.2.2.1, bt469.2.2.2))) else (if a1 = 34 then ((view_Permute.f k a0_0 l0_1 l0_2 l2_9).bind fun bt477 => (some (bt477.1, bt477.2.1, bt477.2.2.1, bt477.2.2.2))) else (if a1 = 35 then ((view_Slice.f k a0_0 l0_1 l0_2 a2_0 a2_1 a2_2 a2_3).bind fun bt485 => (some (bt485.1, bt485.2.1, bt485.2.2.1, bt485.2.2.2))) else (if a1 = 36 then ((view_Expand.f k a0_0 l0_1 l0_2 l2_9).bind fun bt493 => (some (bt493.1, bt493.2.1, bt493.2.2.1, bt493.2.2.2))) else ((view_Flip.f k a0_0 l0_1 l0_2 a2_0).bind fun bt501 => (some (bt501.1, bt501.2.1, bt501.2.2.1, bt501.2.2.2))))))) = some (r1, r2, r3, r4) := h
 clear h
 by_cases c4 : a1 = 33
 ·rw [if_pos c4] at H
  have c4b0 : (a1 == 33) = true := beq_iff_eq.mpr c4
  have c4b1 : (a1 != 33) = false := bne_eq_false_iff_eq.mpr c4
  clear c4
  replace H := Option.bind_eq_some_iff.mp H
  obtain ⟨⟨t469, t470, t473, t476⟩, A50, H⟩ := H
  try dsimp only at H
  have A5 := aM A50
  clear A50
  simp only [Option.some.injEq, Prod.mk.injEq] at H
  obtain ⟨rfl, rfl, rfl, rfl⟩ := H
  go_enter Try.func23, Try.ntmps23
  go_wp2_with (first | ((with_reducible refine gate_dst (N := 3) rfl ?_); refine box_event ?hg (N := 3) ?hd (cs := #[.int .i64 a0_0, .slice A0_1 l0_1.length c0_1, .slice A0_2 l0_2.length c0_2]) (t := 24) ?hr ?_; (case hd => rfl); (case hg => rfl); (case hr => first | (go_simp; done) | (go_simp; rfl)); intro gb466 hg w6 hbox hb; have BK466 := aM (hbox); have GW466 := gE (w := w) hg (qB HB); have GE466 := GW466; replace HB := bS (qB HB) hb; clear hb hbox hg) | ((with_reducible refine gate_dst (N := 5) rfl ?_); refine box_event ?hg (N := 5) ?hd (cs := #[.int .i64 a2_0, .int .i64 a2_1, .int .i64 a2_2, .int .i64 a2_3, .int .i64 a2_4, .int .i64 a2_5, .int .i64 a2_6, .int .i64 a2_7, .bool a2_8, .slice A2_9 l2_9.length c2_9]) (t := 43) ?hr ?_; (case hd => rfl); (case hg => rfl); (case hr => first | (go_simp; done) | (go_simp; rfl)); intro gb467 hg w7 hbox hb; have BK467 := aM (hbox); have GW467 := gE (w := w) hg (qB1 HB GE466); have GE467 := GW467; replace HB := bS (qB1 HB GE466) hb; have NB466_467 := nL hg BK466; have NB467_466 := nG hg BK466; replace BK466 := bK BK466 hb; clear hb hbox hg) | ((with_reducible refine gate_dst (N := 6) rfl ?_); refine box_event ?hg (N := 6) ?hd (cs := #[.int .i64 0, .slice none 0 0, .slice none 0 0]) (t := 24) ?hr ?_; (case hd => rfl); (case hg => rfl); (case hr => first | (go_simp; done) | (go_simp; rfl)); intro gb468 hg w8 hbox hb; have BK468 := aM (hbox); have GW468 := gE (w := w) hg (qB2 HB GE466 GE467); have GE468 := GW468; replace HB := bS (qB2 HB GE466 GE467) hb; have NB466_468 := nL hg BK466; have NB468_466 := nG hg BK466; replace BK466 := bK BK466 hb; have NB467_468 := nL hg BK467; have NB468_467 := nG hg BK467; replace BK467 := bK BK467 hb; clear hb hbox hg; have hnb9 := NB466_467.out; have hnc9 := NB467_466.out; have hnb10 := NB466_468.out; have hnc10 := NB468_466.out; obtain ⟨hcz11_0, hcz11_1, hcz11_2, hfz11_0, hfz11_1, hfz11_2⟩ := blk3 BK466.out; have hnb12 := NB467_468.out; have hnc12 := NB468_467.out; obtain ⟨hcz13_0, hcz13_1, hcz13_2, hcz13_3, hcz13_4, hcz13_5, hcz13_6, hcz13_7, hcz13_8, hcz13_9, hfz13_0, hfz13_1, hfz13_2, hfz13_3, hfz13_4, hfz13_5, hfz13_6, hfz13_7, hfz13_8, hfz13_9⟩ := blk10 BK467.out) | ((with_reducible refine gate_callee (f := 47) rfl ?_); refine goesL_ (some 13) rfl rfl Try.func47 (by kernel_rfl) rfl #[.agg #[.int .i64 a0_0, .slice A0_1 l0_1.length c0_1, .slice A0_2 l0_2.length c0_2], .slice A2_9 l2_9.length c2_9] rfl pA ?_; (with_reducible refine (view_Reshape.calls k a0_0 _ _ l0_1 _ _ l0_2 _ _ l2_9 t469 t470 t473 t476 _ ?s1 ?s2 ?s3 ?s4 ?s5 ?s6 A5.out).mono ?_); (case s1 => exact sC HR0_1 HB); (case s2 => exact HC0_1.out); (case s3 => exact sC HR0_2 HB); (case s4 => exact HC0_2.out); (case s5 => exact sC HR2_9 HB); (case s6 => exact HC2_9.out); rintro e w14 ⟨v471, v474, rfl, ho0, ho1, hb⟩; refine ⟨_, rfl, ?_⟩; have HO472 := aM (Kd.R_lower ho0 (below_size (qB3 HB GE466 GE467 GE468))); have HO475 := aM (Kd.R_lower ho1 (below_size (qB3 HB GE466 GE467 GE468))); replace BK466 := bK BK466 hb; replace BK467 := bK BK467 hb; replace BK468 := bK BK468 hb; replace HB := bS (qB3 HB GE466 GE467 GE468) hb; (try clear hb); (try clear hk); (try clear hi); (try clear ho0); (try clear ho1); obtain ⟨hcz15_0, hcz15_1, hcz15_2, hfz15_0, hfz15_1, hfz15_2⟩ := blk3 BK468.out; obtain ⟨Ao16, co16, eo16⟩ := Kd.R_slice HO472.out; subst eo16; obtain ⟨Ao17, co17, eo17⟩ := Kd.R_slice HO475.out; subst eo17))
  refine bodyPost_ret (results_ct rfl _ _ gb468 24 #[.int .i64 t469, .slice Ao16 t470.length co16, .slice Ao17 t473.length co17] (0, 0) _ rfl (by exact P3 BK468) Try.underlying24 rfl (by kernel_rfl)) rfl ?_
  exact ⟨_, _, pE, by (with_reducible repeat (first | apply rA | apply rN | apply rD)); exact F3 HO472 BK468 (fun _ hk => hk.1), by (with_reducible repeat (first | apply rA | apply rN | apply rD)); exact F3 HO475 BK468 (fun _ hk => hk.1), qB3 HB GE466 GE467 GE468⟩
 rw [if_neg c4] at H
 have c4b0 : (a1 == 33) = false := beq_eq_false_iff_ne.mpr c4
 have c4b1 : (a1 != 33) = true := bne_iff_ne.mpr c4
 by_cases c18 : a1 = 34
 ·rw [if_pos c18] at H
  have c18b0 : (a1 == 34) = true := beq_iff_eq.mpr c18
  have c18b1 : (a1 != 34) = false := bne_eq_false_iff_eq.mpr c18
  clear c18
  replace H := Option.bind_eq_some_iff.mp H
  obtain ⟨⟨t477, t478, t481, t484⟩, A190, H⟩ := H
  try dsimp only at H
  have A19 := aM A190
  clear A190
  simp only [Option.some.injEq, Prod.mk.injEq] at H
  obtain ⟨rfl, rfl, rfl, rfl⟩ := H
  go_enter Try.func23, Try.ntmps23
  go_wp2_with (first | ((with_reducible refine gate_dst (N := 3) rfl ?_); refine box_event ?hg (N := 3) ?hd (cs := #[.int .i64 a0_0, .slice A0_1 l0_1.length c0_1, .slice A0_2 l0_2.length c0_2]) (t := 24) ?hr ?_; (case hd => rfl); (case hg => rfl); (case hr => first | (go_simp; done) | (go_simp; rfl)); intro gb466 hg w20 hbox hb; have BK466 := aM (hbox); have GW466 := gE (w := w) hg (qB HB); have GE466 := GW466; replace HB := bS (qB HB) hb; clear hb hbox hg) | ((with_reducible refine gate_dst (N := 5) rfl ?_); refine box_event ?hg (N := 5) ?hd (cs := #[.int .i64 a2_0, .int .i64 a2_1, .int .i64 a2_2, .int .i64 a2_3, .int .i64 a2_4, .int .i64 a2_5, .int .i64 a2_6, .int .i64 a2_7, .bool a2_8, .slice A2_9 l2_9.length c2_9]) (t := 43) ?hr ?_; (case hd => rfl); (case hg => rfl); (case hr => first | (go_simp; done) | (go_simp; rfl)); intro gb467 hg w21 hbox hb; have BK467 := aM (hbox); have GW467 := gE (w := w) hg (qB1 HB GE466); have GE467 := GW467; replace HB := bS (qB1 HB GE466) hb; have NB466_467 := nL hg BK466; have NB467_466 := nG hg BK466; replace BK466 := bK BK466 hb; clear hb hbox hg) | ((with_reducible refine gate_dst (N := 6) rfl ?_); refine box_event ?hg (N := 6) ?hd (cs := #[.int .i64 0, .slice none 0 0, .slice none 0 0]) (t := 24) ?hr ?_; (case hd => rfl); (case hg => rfl); (case hr => first | (go_simp; done) | (go_simp; rfl)); intro gb468 hg w22 hbox hb; have BK468 := aM (hbox); have GW468 := gE (w := w) hg (qB2 HB GE466 GE467); have GE468 := GW468; replace HB := bS (qB2 HB GE466 GE467) hb; have NB466_468 := nL hg BK466; have NB468_466 := nG hg BK466; replace BK466 := bK BK466 hb; have NB467_468 := nL hg BK467; have NB468_467 := nG hg BK467; replace BK467 := bK BK467 hb; clear hb hbox hg; have hnb23 := NB466_467.out; have hnc23 := NB467_466.out; have hnb24 := NB466_468.out; have hnc24 := NB468_466.out; obtain ⟨hcz25_0, hcz25_1, hcz25_2, hfz25_0, hfz25_1, hfz25_2⟩ := blk3 BK466.out; have hnb26 := NB467_468.out; have hnc26 := NB468_467.out; obtain ⟨hcz27_0, hcz27_1, hcz27_2, hcz27_3, hcz27_4, hcz27_5, hcz27_6, hcz27_7, hcz27_8, hcz27_9, hfz27_0, hfz27_1, hfz27_2, hfz27_3, hfz27_4, hfz27_5, hfz27_6, hfz27_7, hfz27_8, hfz27_9⟩ := blk10 BK467.out) | ((with_reducible refine gate_callee (f := 21) rfl ?_); refine goesL_ (some 21) rfl rfl Try.func21 (by kernel_rfl) rfl #[.agg #[.int .i64 a0_0, .slice A0_1 l0_1.length c0_1, .slice A0_2 l0_2.length c0_2], .slice A2_9 l2_9.length c2_9] rfl pA ?_; (with_reducible refine (view_Permute.calls k a0_0 _ _ l0_1 _ _ l0_2 _ _ l2_9 t477 t478 t481 t484 _ ?s1 ?s2 ?s3 ?s4 ?s5 ?s6 A19.out).mono ?_); (case s1 => exact sC HR0_1 HB); (case s2 => exact HC0_1.out); (case s3 => exact sC HR0_2 HB); (case s4 => exact HC0_2.out); (case s5 => exact sC HR2_9 HB); (case s6 => exact HC2_9.out); rintro e w28 ⟨v479, v482, rfl, ho0, ho1, hb⟩; refine ⟨_, rfl, ?_⟩; have HO480 := aM (Kd.R_lower ho0 (below_size (qB3 HB GE466 GE467 GE468))); have HO483 := aM (Kd.R_lower ho1 (below_size (qB3 HB GE466 GE467 GE468))); replace BK466 := bK BK466 hb; replace BK467 := bK BK467 hb; replace BK468 := bK BK468 hb; replace HB := bS (qB3 HB GE466 GE467 GE468) hb; (try clear hb); (try clear hk); (try clear hi); (try clear ho0); (try clear ho1); obtain ⟨hcz29_0, hcz29_1, hcz29_2, hfz29_0, hfz29_1, hfz29_2⟩ := blk3 BK468.out; obtain ⟨Ao30, co30, eo30⟩ := Kd.R_slice HO480.out; subst eo30; obtain ⟨Ao31, co31, eo31⟩ := Kd.R_slice HO483.out; subst eo31))
  refine bodyPost_ret (results_ct rfl _ _ gb468 24 #[.int .i64 t477, .slice Ao30 t478.length co30, .slice Ao31 t481.length co31] (0, 0) _ rfl (by exact P3 BK468) Try.underlying24 rfl (by kernel_rfl)) rfl ?_
  exact ⟨_, _, pE, by (with_reducible repeat (first | apply rA | apply rN | apply rD)); exact F3 HO480 BK468 (fun _ hk => hk.1), by (with_reducible repeat (first | apply rA | apply rN | apply rD)); exact F3 HO483 BK468 (fun _ hk => hk.1), qB3 HB GE466 GE467 GE468⟩
 rw [if_neg c18] at H
 have c18b0 : (a1 == 34) = false := beq_eq_false_iff_ne.mpr c18
 have c18b1 : (a1 != 34) = true := bne_iff_ne.mpr c18
 by_cases c32 : a1 = 35
 ·rw [if_pos c32] at H
  have c32b0 : (a1 == 35) = true := beq_iff_eq.mpr c32
  have c32b1 : (a1 != 35) = false := bne_eq_false_iff_eq.mpr c32
  clear c32
  replace H := Option.bind_eq_some_iff.mp H
  obtain ⟨⟨t485, t486, t489, t492⟩, A330, H⟩ := H
  try dsimp only at H
  have A33 := aM A330
  clear A330
  simp only [Option.some.injEq, Prod.mk.injEq] at H
  obtain ⟨rfl, rfl, rfl, rfl⟩ := H
  go_enter Try.func23, Try.ntmps23
  go_wp2_with (first | ((with_reducible refine gate_dst (N := 3) rfl ?_); refine box_event ?hg (N := 3) ?hd (cs := #[.int .i64 a0_0, .slice A0_1 l0_1.length c0_1, .slice A0_2 l0_2.length c0_2]) (t := 24) ?hr ?_; (case hd => rfl); (case hg => rfl); (case hr => first | (go_simp; done) | (go_simp; rfl)); intro gb466 hg w34 hbox hb; have BK466 := aM (hbox); have GW466 := gE (w := w) hg (qB HB); have GE466 := GW466; replace HB := bS (qB HB) hb; clear hb hbox hg) | ((with_reducible refine gate_dst (N := 5) rfl ?_); refine box_event ?hg (N := 5) ?hd (cs := #[.int .i64 a2_0, .int .i64 a2_1, .int .i64 a2_2, .int .i64 a2_3, .int .i64 a2_4, .int .i64 a2_5, .int .i64 a2_6, .int .i64 a2_7, .bool a2_8, .slice A2_9 l2_9.length c2_9]) (t := 43) ?hr ?_; (case hd => rfl); (case hg => rfl); (case hr => first | (go_simp; done) | (go_simp; rfl)); intro gb467 hg w35 hbox hb; have BK467 := aM (hbox); have GW467 := gE (w := w) hg (qB1 HB GE466); have GE467 := GW467; replace HB := bS (qB1 HB GE466) hb; have NB466_467 := nL hg BK466; have NB467_466 := nG hg BK466; replace BK466 := bK BK466 hb; clear hb hbox hg) | ((with_reducible refine gate_dst (N := 6) rfl ?_); refine box_event ?hg (N := 6) ?hd (cs := #[.int .i64 0, .slice none 0 0, .slice none 0 0]) (t := 24) ?hr ?_; (case hd => rfl); (case hg => rfl); (case hr => first | (go_simp; done) | (go_simp; rfl)); intro gb468 hg w36 hbox hb; have BK468 := aM (hbox); have GW468 := gE (w := w) hg (qB2 HB GE466 GE467); have GE468 := GW468; replace HB := bS (qB2 HB GE466 GE467) hb; have NB466_468 := nL hg BK466; have NB468_466 := nG hg BK466; replace BK466 := bK BK466 hb; have NB467_468 := nL hg BK467; have NB468_467 := nG hg BK467; replace BK467 := bK BK467 hb; clear hb hbox hg; have hnb37 := NB466_467.out; have hnc37 := NB467_466.out; have hnb38 := NB466_468.out; have hnc38 := NB468_466.out; obtain ⟨hcz39_0, hcz39_1, hcz39_2, hfz39_0, hfz39_1, hfz39_2⟩ := blk3 BK466.out; have hnb40 := NB467_468.out; have hnc40 := NB468_467.out; obtain ⟨hcz41_0, hcz41_1, hcz41_2, hcz41_3, hcz41_4, hcz41_5, hcz41_6, hcz41_7, hcz41_8, hcz41_9, hfz41_0, hfz41_1, hfz41_2, hfz41_3, hfz41_4, hfz41_5, hfz41_6, hfz41_7, hfz41_8, hfz41_9⟩ := blk10 BK467.out) | ((with_reducible refine gate_callee (f := 37) rfl ?_); refine goesL_ (some 35) rfl rfl Try.func37 (by kernel_rfl) rfl #[.agg #[.int .i64 a0_0, .slice A0_1 l0_1.length c0_1, .slice A0_2 l0_2.length c0_2], .int .i64 a2_0, .int .i64 a2_1, .int .i64 a2_2, .int .i64 a2_3] rfl pA ?_; (with_reducible refine (view_Slice.calls k a0_0 _ _ l0_1 _ _ l0_2 a2_0 a2_1 a2_2 a2_3 t485 t486 t489 t492 _ ?s1 ?s2 ?s3 ?s4 A33.out).mono ?_); (case s1 => exact sC HR0_1 HB); (case s2 => exact HC0_1.out); (case s3 => exact sC HR0_2 HB); (case s4 => exact HC0_2.out); rintro e w42 ⟨v487, v490, rfl, ho0, ho1, hb⟩; refine ⟨_, rfl, ?_⟩; have HO488 := aM (Kd.R_lower ho0 (below_size (qB3 HB GE466 GE467 GE468))); have HO491 := aM (Kd.R_lower ho1 (below_size (qB3 HB GE466 GE467 GE468))); replace BK466 := bK BK466 hb; replace BK467 := bK BK467 hb; replace BK468 := bK BK468 hb; replace HB := bS (qB3 HB GE466 GE467 GE468) hb; (try clear hb); (try clear hk); (try clear hi); (try clear ho0); (try clear ho1); obtain ⟨hcz43_0, hcz43_1, hcz43_2, hfz43_0, hfz43_1, hfz43_2⟩ := blk3 BK468.out; obtain ⟨Ao44, co44, eo44⟩ := Kd.R_slice HO488.out; subst eo44; obtain ⟨Ao45, co45, eo45⟩ := Kd.R_slice HO491.out; subst eo45))
  refine bodyPost_ret (results_ct rfl _ _ gb468 24 #[.int .i64 t485, .slice Ao44 t486.length co44, .slice Ao45 t489.length co45] (0, 0) _ rfl (by exact P3 BK468) Try.underlying24 rfl (by kernel_rfl)) rfl ?_
  exact ⟨_, _, pE, by (with_reducible repeat (first | apply rA | apply rN | apply rD)); exact F3 HO488 BK468 (fun _ hk => hk.1), by (with_reducible repeat (first | apply rA | apply rN | apply rD)); exact F3 HO491 BK468 (fun _ hk => hk.1), qB3 HB GE466 GE467 GE468⟩
 rw [if_neg c32] at H
 have c32b0 : (a1 == 35) = false := beq_eq_false_iff_ne.mpr c32
 have c32b1 : (a1 != 35) = true := bne_iff_ne.mpr c32
 by_cases c46 : a1 = 36
 ·rw [if_pos c46] at H
  have c46b0 : (a1 == 36) = true := beq_iff_eq.mpr c46
  have c46b1 : (a1 != 36) = false := bne_eq_false_iff_eq.mpr c46
  clear c46
  replace H := Option.bind_eq_some_iff.mp H
  obtain ⟨⟨t493, t494, t497, t500⟩, A470, H⟩ := H
  try dsimp only at H
  have A47 := aM A470
  clear A470
  simp only [Option.some.injEq, Prod.mk.injEq] at H
  obtain ⟨rfl, rfl, rfl, rfl⟩ := H
  go_enter Try.func23, Try.ntmps23
  go_wp2_with (first | ((with_reducible refine gate_dst (N := 3) rfl ?_); refine box_event ?hg (N := 3) ?hd (cs := #[.int .i64 a0_0, .slice A0_1 l0_1.length c0_1, .slice A0_2 l0_2.length c0_2]) (t := 24) ?hr ?_; (case hd => rfl); (case hg => rfl); (case hr => first | (go_simp; done) | (go_simp; rfl)); intro gb466 hg w48 hbox hb; have BK466 := aM (hbox); have GW466 := gE (w := w) hg (qB HB); have GE466 := GW466; replace HB := bS (qB HB) hb; clear hb hbox hg) | ((with_reducible refine gate_dst (N := 5) rfl ?_); refine box_event ?hg (N := 5) ?hd (cs := #[.int .i64 a2_0, .int .i64 a2_1, .int .i64 a2_2, .int .i64 a2_3, .int .i64 a2_4, .int .i64 a2_5, .int .i64 a2_6, .int .i64 a2_7, .bool a2_8, .slice A2_9 l2_9.length c2_9]) (t := 43) ?hr ?_; (case hd => rfl); (case hg => rfl); (case hr => first | (go_simp; done) | (go_simp; rfl)); intro gb467 hg w49 hbox hb; have BK467 := aM (hbox); have GW467 := gE (w := w) hg (qB1 HB GE466); have GE467 := GW467; replace HB := bS (qB1 HB GE466) hb; have NB466_467 := nL hg BK466; have NB467_466 := nG hg BK466; replace BK466 := bK BK466 hb; clear hb hbox hg) | ((with_reducible refine gate_dst (N := 6) rfl ?_); refine box_event ?hg (N := 6) ?hd (cs := #[.int .i64 0, .slice none 0 0, .slice none 0 0]) (t := 24) ?hr ?_; (case hd => rfl); (case hg => rfl); (case hr => first | (go_simp; done) | (go_simp; rfl)); intro gb468 hg w50 hbox hb; have BK468 := aM (hbox); have GW468 := gE (w := w) hg (qB2 HB GE466 GE467); have GE468 := GW468; replace HB := bS (qB2 HB GE466 GE467) hb; have NB466_468 := nL hg BK466; have NB468_466 := nG hg BK466; replace BK466 := bK BK466 hb; have NB467_468 := nL hg BK467; have NB468_467 := nG hg BK467; replace BK467 := bK BK467 hb; clear hb hbox hg; have hnb51 := NB466_467.out; have hnc51 := NB467_466.out; have hnb52 := NB466_468.out; have hnc52 := NB468_466.out; obtain ⟨hcz53_0, hcz53_1, hcz53_2, hfz53_0, hfz53_1, hfz53_2⟩ := blk3 BK466.out; have hnb54 := NB467_468.out; have hnc54 := NB468_467.out; obtain ⟨hcz55_0, hcz55_1, hcz55_2, hcz55_3, hcz55_4, hcz55_5, hcz55_6, hcz55_7, hcz55_8, hcz55_9, hfz55_0, hfz55_1, hfz55_2, hfz55_3, hfz55_4, hfz55_5, hfz55_6, hfz55_7, hfz55_8, hfz55_9⟩ := blk10 BK467.out) | ((with_reducible refine gate_callee (f := 36) rfl ?_); refine goesL_ (some 43) rfl rfl Try.func36 (by kernel_rfl) rfl #[.agg #[.int .i64 a0_0, .slice A0_1 l0_1.length c0_1, .slice A0_2 l0_2.length c0_2], .slice A2_9 l2_9.length c2_9] rfl pA ?_; (with_reducible refine (view_Expand.calls k a0_0 _ _ l0_1 _ _ l0_2 _ _ l2_9 t493 t494 t497 t500 _ ?s1 ?s2 ?s3 ?s4 ?s5 ?s6 A47.out).mono ?_); (case s1 => exact sC HR0_1 HB); (case s2 => exact HC0_1.out); (case s3 => exact sC HR0_2 HB); (case s4 => exact HC0_2.out); (case s5 => exact sC HR2_9 HB); (case s6 => exact HC2_9.out); rintro e w56 ⟨v495, v498, rfl, ho0, ho1, hb⟩; refine ⟨_, rfl, ?_⟩; have HO496 := aM (Kd.R_lower ho0 (below_size (qB3 HB GE466 GE467 GE468))); have HO499 := aM (Kd.R_lower ho1 (below_size (qB3 HB GE466 GE467 GE468))); replace BK466 := bK BK466 hb; replace BK467 := bK BK467 hb; replace BK468 := bK BK468 hb; replace HB := bS (qB3 HB GE466 GE467 GE468) hb; (try clear hb); (try clear hk); (try clear hi); (try clear ho0); (try clear ho1); obtain ⟨hcz57_0, hcz57_1, hcz57_2, hfz57_0, hfz57_1, hfz57_2⟩ := blk3 BK468.out; obtain ⟨Ao58, co58, eo58⟩ := Kd.R_slice HO496.out; subst eo58; obtain ⟨Ao59, co59, eo59⟩ := Kd.R_slice HO499.out; subst eo59))
  refine bodyPost_ret (results_ct rfl _ _ gb468 24 #[.int .i64 t493, .slice Ao58 t494.length co58, .slice Ao59 t497.length co59] (0, 0) _ rfl (by exact P3 BK468) Try.underlying24 rfl (by kernel_rfl)) rfl ?_
  exact ⟨_, _, pE, by (with_reducible repeat (first | apply rA | apply rN | apply rD)); exact F3 HO496 BK468 (fun _ hk => hk.1), by (with_reducible repeat (first | apply rA | apply rN | apply rD)); exact F3 HO499 BK468 (fun _ hk => hk.1), qB3 HB GE466 GE467 GE468⟩
 rw [if_neg c46] at H
 have c46b0 : (a1 == 36) = false := beq_eq_false_iff_ne.mpr c46
 have c46b1 : (a1 != 36) = true := bne_iff_ne.mpr c46
 replace H := Option.bind_eq_some_iff.mp H
 obtain ⟨⟨t501, t502, t505, t508⟩, A600, H⟩ := H
 try dsimp only at H
 have A60 := aM A600
 clear A600
 simp only [Option.some.injEq, Prod.mk.injEq] at H
 obtain ⟨rfl, rfl, rfl, rfl⟩ := H
 go_enter Try.func23, Try.ntmps23
 go_wp2_with (first | ((with_reducible refine gate_dst (N := 3) rfl ?_); refine box_event ?hg (N := 3) ?hd (cs := #[.int .i64 a0_0, .slice A0_1 l0_1.length c0_1, .slice A0_2 l0_2.length c0_2]) (t := 24) ?hr ?_; (case hd => rfl); (case hg => rfl); (case hr => first | (go_simp; done) | (go_simp; rfl)); intro gb466 hg w61 hbox hb; have BK466 := aM (hbox); have GW466 := gE (w := w) hg (qB HB); have GE466 := GW466; replace HB := bS (qB HB) hb; clear hb hbox hg) | ((with_reducible refine gate_dst (N := 5) rfl ?_); refine box_event ?hg (N := 5) ?hd (cs := #[.int .i64 a2_0, .int .i64 a2_1, .int .i64 a2_2, .int .i64 a2_3, .int .i64 a2_4, .int .i64 a2_5, .int .i64 a2_6, .int .i64 a2_7, .bool a2_8, .slice A2_9 l2_9.length c2_9]) (t := 43) ?hr ?_; (case hd => rfl); (case hg => rfl); (case hr => first | (go_simp; done) | (go_simp; rfl)); intro gb467 hg w62 hbox hb; have BK467 := aM (hbox); have GW467 := gE (w := w) hg (qB1 HB GE466); have GE467 := GW467; replace HB := bS (qB1 HB GE466) hb; have NB466_467 := nL hg BK466; have NB467_466 := nG hg BK466; replace BK466 := bK BK466 hb; clear hb hbox hg) | ((with_reducible refine gate_dst (N := 6) rfl ?_); refine box_event ?hg (N := 6) ?hd (cs := #[.int .i64 0, .slice none 0 0, .slice none 0 0]) (t := 24) ?hr ?_; (case hd => rfl); (case hg => rfl); (case hr => first | (go_simp; done) | (go_simp; rfl)); intro gb468 hg w63 hbox hb; have BK468 := aM (hbox); have GW468 := gE (w := w) hg (qB2 HB GE466 GE467); have GE468 := GW468; replace HB := bS (qB2 HB GE466 GE467) hb; have NB466_468 := nL hg BK466; have NB468_466 := nG hg BK466; replace BK466 := bK BK466 hb; have NB467_468 := nL hg BK467; have NB468_467 := nG hg BK467; replace BK467 := bK BK467 hb; clear hb hbox hg; have hnb64 := NB466_467.out; have hnc64 := NB467_466.out; have hnb65 := NB466_468.out; have hnc65 := NB468_466.out; obtain ⟨hcz66_0, hcz66_1, hcz66_2, hfz66_0, hfz66_1, hfz66_2⟩ := blk3 BK466.out; have hnb67 := NB467_468.out; have hnc67 := NB468_467.out; obtain ⟨hcz68_0, hcz68_1, hcz68_2, hcz68_3, hcz68_4, hcz68_5, hcz68_6, hcz68_7, hcz68_8, hcz68_9, hfz68_0, hfz68_1, hfz68_2, hfz68_3, hfz68_4, hfz68_5, hfz68_6, hfz68_7, hfz68_8, hfz68_9⟩ := blk10 BK467.out) | ((with_reducible refine gate_callee (f := 19) rfl ?_); refine goesL_ (some 49) rfl rfl Try.func19 (by kernel_rfl) rfl #[.agg #[.int .i64 a0_0, .slice A0_1 l0_1.length c0_1, .slice A0_2 l0_2.length c0_2], .int .i64 a2_0] rfl pA ?_; (with_reducible refine (view_Flip.calls k a0_0 _ _ l0_1 _ _ l0_2 a2_0 t501 t502 t505 t508 _ ?s1 ?s2 ?s3 ?s4 A60.out).mono ?_); (case s1 => exact sC HR0_1 HB); (case s2 => exact HC0_1.out); (case s3 => exact sC HR0_2 HB); (case s4 => exact HC0_2.out); rintro e w69 ⟨v503, v506, rfl, ho0, ho1, hb⟩; refine ⟨_, rfl, ?_⟩; have HO504 := aM (Kd.R_lower ho0 (below_size (qB3 HB GE466 GE467 GE468))); have HO507 := aM (Kd.R_lower ho1 (below_size (qB3 HB GE466 GE467 GE468))); replace BK466 := bK BK466 hb; replace BK467 := bK BK467 hb; replace BK468 := bK BK468 hb; replace HB := bS (qB3 HB GE466 GE467 GE468) hb; (try clear hb); (try clear hk); (try clear hi); (try clear ho0); (try clear ho1); obtain ⟨hcz70_0, hcz70_1, hcz70_2, hfz70_0, hfz70_1, hfz70_2⟩ := blk3 BK468.out; obtain ⟨Ao71, co71, eo71⟩ := Kd.R_slice HO504.out; subst eo71; obtain ⟨Ao72, co72, eo72⟩ := Kd.R_slice HO507.out; subst eo72))
 refine bodyPost_ret (results_ct rfl _ _ gb468 24 #[.int .i64 t501, .slice Ao71 t502.length co71, .slice Ao72 t505.length co72] (0, 0) _ rfl (by exact P3 BK468) Try.underlying24 rfl (by kernel_rfl)) rfl ?_
 exact ⟨_, _, pE, by (with_reducible repeat (first | apply rA | apply rN | apply rD)); exact F3 HO504 BK468 (fun _ hk => hk.1), by (with_reducible repeat (first | apply rA | apply rN | apply rD)); exact F3 HO507 BK468 (fun _ hk => hk.1), qB3 HB GE466 GE467 GE468⟩
def gradineplain_Ints.l0 : Nat → List Int → List Int → Int → Int → Option (Bool)
 | 0, _, _, _, _ => none
 | k + 1, x0, x1, x12, x13 => if x13 < x12 then (if 0 ≤ x13 then (if x13 < (x0.length : Int) then (if x13 < (x1.length : Int) then (if (rd x0 x13) = (rd x1 x13) then (gradineplain_Ints.l0 k x0 x1 x12 (wrap64 (x13 + 1))) else (some false)) else (none)) else (none)) else (none)) else (some true)
def gradineplain_Ints.f (k : Nat) (l0 : List Int) (l1 : List Int) : Option (Bool) := if (l0.length : Int) = (l1.length : Int) then (gradineplain_Ints.l0 k l0 l1 (l0.length : Int) 0) else (some false)
set_option maxHeartbeats 8000000 in
set_option maxRecDepth 100000 in
theorem gradineplain_Ints.calls (k : Nat) (A0 : Option Addr) (c0 : Nat) (l0 : List Int) (A1 : Option Addr) (c1 : Nat) (l1 : List Int) (r : Bool) (w : World) (hr0 : Kd.C (Kd.int .i64) w A0 l0.length l0) (hc0 : l0.length ≤ c0) (hr1 : Kd.C (Kd.int .i64) w A1 l1.length l1) (hc1 : l1.length ≤ c1) (h : gradineplain_Ints.f k l0 l1 = some r) :
  Calls Try.prog 20 #[.slice A0 l0.length c0, .slice A1 l1.length c1] w fun e w' => e = .returned (.bool r) ∧ Drawn0 w w' := by
 have HR0 := aM hr0
 have HC0 := aM hc0
 clear hr0 hc0
 have HR1 := aM hr1
 have HC1 := aM hc1
 clear hr1 hc1
 have H : (if (l0.length : Int) = (l1.length : Int) then (gradineplain_Ints.l0 k l0 l1 (l0.length : Int) 0) else (some false)) = some r := h
 clear h
 by_cases c3 : (l0.length : Int) = (l1.length : Int)
 rotate_left
 ·rw [if_neg c3] at H
  have c3b0 : ((l0.length : Int) == (l1.length : Int)) = false := beq_eq_false_iff_ne.mpr c3
  have c3b1 : ((l0.length : Int) != (l1.length : Int)) = true := bne_iff_ne.mpr c3
  have c3b2 : (l0.length == l1.length) = false := by first | simpa using c3 | (simp at c3 ⊢; omega)
  obtain rfl := Option.some.inj H
  go_enter Try.func20, Try.ntmps20
  go_wp2
  repeat (go_quiet (fail); try go_wp2)
  go_ret
  exact ⟨pF, by repeat (first | exact Drawn0.refl _ | apply Drawn0.step)⟩
 rw [if_pos c3] at H
 have c3b0 : ((l0.length : Int) == (l1.length : Int)) = true := beq_iff_eq.mpr c3
 have c3b1 : ((l0.length : Int) != (l1.length : Int)) = false := bne_eq_false_iff_eq.mpr c3
 have c3b2 : (l0.length == l1.length) = true := by first | simpa using c3 | (simp at c3 ⊢; omega)
 clear c3
 have H' := aM H
 clear H
 go_enter Try.func20, Try.ntmps20
 go_wp2
 repeat (go_quiet (fail); try go_wp2)
 go_loopg [13] k (fun kq v13 w' => ∃ (x13_1 : Int), v13 = .int .i64 x13_1 ∧ Aside0 (gradineplain_Ints.l0 kq l0 l1 (l0.length : Int) x13_1 = some r) ∧ Aside0 (kq ≤ k) ∧ Drawn0 w w')
 case atStart => exact ⟨(0), (pF), H', ⟨Nat.le_refl _⟩, by repeat (first | exact Drawn0.refl _ | apply Drawn0.step)⟩
 case round =>
  clear H'
  try clear c1
  try clear c3b0
  try clear c3b1
  try clear c3b2
  obtain ⟨x13_1, rfl, HA, HK1, ⟨m1, rfl⟩⟩ := hrel
  cases gk with
  | zero => exact absurd HA.out (by simp [gradineplain_Ints.l0])
  | succ k1 =>
   have H := HA.out
   clear HA
   simp only [gradineplain_Ints.l0] at H
   by_cases c4 : x13_1 < (l0.length : Int)
   rotate_left
   ·rw [if_neg c4] at H
    have c4b0 : decide (x13_1 < (l0.length : Int)) = false := decide_eq_false c4
    clear c4
    obtain rfl := Option.some.inj H
    go_wp2
    repeat (go_quiet (fail); try go_wp2)
    go_ret
    exact ⟨pF, by repeat (first | exact Drawn0.refl _ | apply Drawn0.step)⟩
   rw [if_pos c4] at H
   have c4b0 : decide (x13_1 < (l0.length : Int)) = true := decide_eq_true c4
   clear c4
   by_cases c5 : 0 ≤ x13_1
   rotate_left
   ·rw [if_neg c5] at H
    exact absurd H (by simp)
   rw [if_pos c5] at H
   have c5b0 : decide (0 ≤ x13_1) = true := decide_eq_true c5
   clear c5
   by_cases c6 : x13_1 < (l0.length : Int)
   rotate_left
   ·rw [if_neg c6] at H
    exact absurd H (by simp)
   rw [if_pos c6] at H
   have c6b0 : decide (x13_1 < (l0.length : Int)) = true := decide_eq_true c6
   clear c6
   by_cases c7 : x13_1 < (l1.length : Int)
   rotate_left
   ·rw [if_neg c7] at H
    exact absurd H (by simp)
   rw [if_pos c7] at H
   have c7b0 : decide (x13_1 < (l1.length : Int)) = true := decide_eq_true c7
   clear c7
   by_cases c8 : (rd l0 x13_1) = (rd l1 x13_1)
   rotate_left
   ·rw [if_neg c8] at H
    have c8b0 : ((rd l0 x13_1) == (rd l1 x13_1)) = false := beq_eq_false_iff_ne.mpr c8
    have c8b1 : ((rd l0 x13_1) != (rd l1 x13_1)) = true := bne_iff_ne.mpr c8
    obtain rfl := Option.some.inj H
    have p344 : 0 ≤ (x13_1 : Int) := of_decide_eq_true pD
    have q344 : x13_1 < (l0.length : Int) := of_decide_eq_true pD
    obtain ⟨ad344, e344, hx344_0⟩ := Kd.at_int HR0.out x13_1 p344 q344
    cases e344
    replace p344 := eq_true p344
    replace q344 := eq_true q344
    have p345 : 0 ≤ (x13_1 : Int) := of_decide_eq_true pD
    have q345 : x13_1 < (l1.length : Int) := of_decide_eq_true pD
    obtain ⟨ad345, e345, hx345_0⟩ := Kd.at_int HR1.out x13_1 p345 q345
    cases e345
    replace p345 := eq_true p345
    replace q345 := eq_true q345
    go_wp2
    repeat (go_quiet (fail); try go_wp2)
    go_ret
    exact ⟨pF, by repeat (first | exact Drawn0.refl _ | apply Drawn0.step)⟩
   rw [if_pos c8] at H
   have c8b0 : ((rd l0 x13_1) == (rd l1 x13_1)) = true := beq_iff_eq.mpr c8
   have c8b1 : ((rd l0 x13_1) != (rd l1 x13_1)) = false := bne_eq_false_iff_eq.mpr c8
   clear c8
   have H' := aM H
   clear H
   have p344 : 0 ≤ (x13_1 : Int) := of_decide_eq_true pD
   have q344 : x13_1 < (l0.length : Int) := of_decide_eq_true pD
   obtain ⟨ad344, e344, hx344_0⟩ := Kd.at_int HR0.out x13_1 p344 q344
   cases e344
   replace p344 := eq_true p344
   replace q344 := eq_true q344
   have p345 : 0 ≤ (x13_1 : Int) := of_decide_eq_true pD
   have q345 : x13_1 < (l1.length : Int) := of_decide_eq_true pD
   obtain ⟨ad345, e345, hx345_0⟩ := Kd.at_int HR1.out x13_1 p345 q345
   cases e345
   replace p345 := eq_true p345
   replace q345 := eq_true q345
   go_wp2
   repeat (go_quiet (fail); try go_wp2)
   go_roundg k1
   case measure => have := HK1.out; omega
   case rel => exact ⟨(wrap64 (x13_1 + 1)), (pF), H', ⟨by have := HK1.out; omega⟩, by repeat (first | exact Drawn0.refl _ | apply Drawn0.step)⟩
mutual
def gradineref19_Check.l0 : Nat → List Int → Int → Int → Option (Int)
 | 0, _, _, _ => none
 | k + 1, x0, x10, x11 => if x11 < x10 then (if 0 ≤ x11 then (if x11 < (x0.length : Int) then (if (rd x0 x11) < 1 then (some 8) else (gradineref19_Check.l0 k x0 x10 (wrap64 (x11 + 1)))) else (none)) else (none)) else (gradineref19_Check.l1 k x0 1 (x0.length : Int) 0)
def gradineref19_Check.l1 : Nat → List Int → Int → Int → Int → Option (Int)
 | 0, _, _, _, _ => none
 | k + 1, x0, x4, x21, x22 => if x22 < x21 then (if 0 ≤ x22 then (if x22 < (x0.length : Int) then (if (rd x0 x22) > 64 then (some 12) else (if (wrap64 (x4 * (rd x0 x22))) > 64 then (some 12) else (gradineref19_Check.l1 k x0 (wrap64 (x4 * (rd x0 x22))) x21 (wrap64 (x22 + 1))))) else (none)) else (none)) else (some 0)
end
def gradineref19_Check.f (k : Nat) (l0 : List Int) : Option (Int) := if (l0.length : Int) > 6 then (some 9) else (gradineref19_Check.l0 k l0 (l0.length : Int) 0)
set_option maxHeartbeats 8000000 in
set_option maxRecDepth 100000 in
theorem gradineref19_Check.calls (k : Nat) (A0 : Option Addr) (c0 : Nat) (l0 : List Int) (r : Int) (w : World) (hr0 : Kd.C (Kd.int .i64) w A0 l0.length l0) (hc0 : l0.length ≤ c0) (h : gradineref19_Check.f k l0 = some r) :
  Calls Try.prog 15 #[.slice A0 l0.length c0] w fun e w' => e = .returned (.int .i64 r) ∧ Drawn0 w w' := by
 have HR0 := aM hr0
 have HC0 := aM hc0
 clear hr0 hc0
 have H : (if (l0.length : Int) > 6 then (some 9) else (gradineref19_Check.l0 k l0 (l0.length : Int) 0)) = some r := h
 clear h
 by_cases c2 : (l0.length : Int) > 6
 ·rw [if_pos c2] at H
  have c2b0 : decide (6 < (l0.length : Int)) = true := decide_eq_true c2
  have c2b1 : decide (6 < l0.length) = true := decide_eq_true (by omega)
  clear c2
  obtain rfl := Option.some.inj H
  go_enter Try.func15, Try.ntmps15
  go_wp2
  go_ret
  exact ⟨pF, by repeat (first | exact Drawn0.refl _ | apply Drawn0.step)⟩
 rw [if_neg c2] at H
 have c2b0 : decide (6 < (l0.length : Int)) = false := decide_eq_false c2
 have c2b1 : decide (6 < l0.length) = false := decide_eq_false (by omega)
 clear c2
 have H' := aM H
 clear H
 go_enter Try.func15, Try.ntmps15
 go_wp2
 go_loopg [11] k (fun kq v11 w' => ∃ (x11_1 : Int), v11 = .int .i64 x11_1 ∧ Aside0 (gradineref19_Check.l0 kq l0 (l0.length : Int) x11_1 = some r) ∧ Aside0 (kq ≤ k) ∧ Drawn0 w w')
 case atStart => exact ⟨(0), (pF), H', ⟨Nat.le_refl _⟩, by repeat (first | exact Drawn0.refl _ | apply Drawn0.step)⟩
 case round =>
  clear H'
  try clear c2b0
  try clear c2b1
  obtain ⟨x11_1, rfl, HA, HK1, ⟨m1, rfl⟩⟩ := hrel
  cases gk with
  | zero => exact absurd HA.out (by simp [gradineref19_Check.l0])
  | succ k1 =>
   have H := HA.out
   clear HA
   simp only [gradineref19_Check.l0] at H
   by_cases c3 : x11_1 < (l0.length : Int)
   ·rw [if_pos c3] at H
    have c3b0 : decide (x11_1 < (l0.length : Int)) = true := decide_eq_true c3
    clear c3
    by_cases c4 : 0 ≤ x11_1
    rotate_left
    ·rw [if_neg c4] at H
     exact absurd H (by simp)
    rw [if_pos c4] at H
    have c4b0 : decide (0 ≤ x11_1) = true := decide_eq_true c4
    clear c4
    by_cases c5 : x11_1 < (l0.length : Int)
    rotate_left
    ·rw [if_neg c5] at H
     exact absurd H (by simp)
    rw [if_pos c5] at H
    have c5b0 : decide (x11_1 < (l0.length : Int)) = true := decide_eq_true c5
    clear c5
    by_cases c6 : (rd l0 x11_1) < 1
    ·rw [if_pos c6] at H
     have c6b0 : decide ((rd l0 x11_1) < 1) = true := decide_eq_true c6
     clear c6
     obtain rfl := Option.some.inj H
     have p242 : 0 ≤ (x11_1 : Int) := of_decide_eq_true pD
     have q242 : x11_1 < (l0.length : Int) := of_decide_eq_true pD
     obtain ⟨ad242, e242, hx242_0⟩ := Kd.at_int HR0.out x11_1 p242 q242
     cases e242
     replace p242 := eq_true p242
     replace q242 := eq_true q242
     go_wp2
     go_ret
     exact ⟨pF, by repeat (first | exact Drawn0.refl _ | apply Drawn0.step)⟩
    rw [if_neg c6] at H
    have c6b0 : decide ((rd l0 x11_1) < 1) = false := decide_eq_false c6
    clear c6
    have H' := aM H
    clear H
    have p242 : 0 ≤ (x11_1 : Int) := of_decide_eq_true pD
    have q242 : x11_1 < (l0.length : Int) := of_decide_eq_true pD
    obtain ⟨ad242, e242, hx242_0⟩ := Kd.at_int HR0.out x11_1 p242 q242
    cases e242
    replace p242 := eq_true p242
    replace q242 := eq_true q242
    go_wp2
    go_roundg k1
    case measure => have := HK1.out; omega
    case rel => exact ⟨(wrap64 (x11_1 + 1)), (pF), H', ⟨by have := HK1.out; omega⟩, by repeat (first | exact Drawn0.refl _ | apply Drawn0.step)⟩
   rw [if_neg c3] at H
   have c3b0 : decide (x11_1 < (l0.length : Int)) = false := decide_eq_false c3
   clear c3
   have H' := aM H
   clear H
   go_wp2
   go_loopg [4, 22] k1 (fun kq v4 v22 w' => ∃ (x4_2 : Int) (x22_2 : Int), v4 = .int .i64 x4_2 ∧ v22 = .int .i64 x22_2 ∧ Aside0 (gradineref19_Check.l1 kq l0 x4_2 (l0.length : Int) x22_2 = some r) ∧ Aside0 (kq ≤ k1) ∧ Drawn0 w w')
   case atStart => exact ⟨(1), (0), (pF), (pF), H', ⟨Nat.le_refl _⟩, by repeat (first | exact Drawn0.refl _ | apply Drawn0.step)⟩
   case round =>
    clear H'
    try clear c3b0
    obtain ⟨x4_2, x22_2, rfl, rfl, HA, HK2, ⟨m2, rfl⟩⟩ := hrel
    cases gk with
    | zero => exact absurd HA.out (by simp [gradineref19_Check.l1])
    | succ k2 =>
     have H := HA.out
     clear HA
     simp only [gradineref19_Check.l1] at H
     by_cases c7 : x22_2 < (l0.length : Int)
     rotate_left
     ·rw [if_neg c7] at H
      have c7b0 : decide (x22_2 < (l0.length : Int)) = false := decide_eq_false c7
      clear c7
      obtain rfl := Option.some.inj H
      go_wp2
      go_ret
      exact ⟨pF, by repeat (first | exact Drawn0.refl _ | apply Drawn0.step)⟩
     rw [if_pos c7] at H
     have c7b0 : decide (x22_2 < (l0.length : Int)) = true := decide_eq_true c7
     clear c7
     by_cases c8 : 0 ≤ x22_2
     rotate_left
     ·rw [if_neg c8] at H
      exact absurd H (by simp)
     rw [if_pos c8] at H
     have c8b0 : decide (0 ≤ x22_2) = true := decide_eq_true c8
     clear c8
     by_cases c9 : x22_2 < (l0.length : Int)
     rotate_left
     ·rw [if_neg c9] at H
      exact absurd H (by simp)
     rw [if_pos c9] at H
     have c9b0 : decide (x22_2 < (l0.length : Int)) = true := decide_eq_true c9
     clear c9
     by_cases c10 : (rd l0 x22_2) > 64
     ·rw [if_pos c10] at H
      have c10b0 : decide (64 < (rd l0 x22_2)) = true := decide_eq_true c10
      clear c10
      obtain rfl := Option.some.inj H
      have p243 : 0 ≤ (x22_2 : Int) := of_decide_eq_true pD
      have q243 : x22_2 < (l0.length : Int) := of_decide_eq_true pD
      obtain ⟨ad243, e243, hx243_0⟩ := Kd.at_int HR0.out x22_2 p243 q243
      cases e243
      replace p243 := eq_true p243
      replace q243 := eq_true q243
      go_wp2
      go_ret
      exact ⟨pF, by repeat (first | exact Drawn0.refl _ | apply Drawn0.step)⟩
     rw [if_neg c10] at H
     have c10b0 : decide (64 < (rd l0 x22_2)) = false := decide_eq_false c10
     clear c10
     by_cases c11 : (wrap64 (x4_2 * (rd l0 x22_2))) > 64
     ·rw [if_pos c11] at H
      have c11b0 : decide (64 < (wrap64 (x4_2 * (rd l0 x22_2)))) = true := decide_eq_true c11
      clear c11
      obtain rfl := Option.some.inj H
      have p243 : 0 ≤ (x22_2 : Int) := of_decide_eq_true pD
      have q243 : x22_2 < (l0.length : Int) := of_decide_eq_true pD
      obtain ⟨ad243, e243, hx243_0⟩ := Kd.at_int HR0.out x22_2 p243 q243
      cases e243
      replace p243 := eq_true p243
      replace q243 := eq_true q243
      have p244 : 0 ≤ (x22_2 : Int) := of_decide_eq_true pD
      have q244 : x22_2 < (l0.length : Int) := of_decide_eq_true pD
      obtain ⟨ad244, e244, hx244_0⟩ := Kd.at_int HR0.out x22_2 p244 q244
      obtain rfl : ad243 = ad244 := (by injection e244)
      replace p244 := eq_true p244
      replace q244 := eq_true q244
      go_wp2
      go_ret
      exact ⟨pF, by repeat (first | exact Drawn0.refl _ | apply Drawn0.step)⟩
     rw [if_neg c11] at H
     have c11b0 : decide (64 < (wrap64 (x4_2 * (rd l0 x22_2)))) = false := decide_eq_false c11
     clear c11
     have H' := aM H
     clear H
     have p243 : 0 ≤ (x22_2 : Int) := of_decide_eq_true pD
     have q243 : x22_2 < (l0.length : Int) := of_decide_eq_true pD
     obtain ⟨ad243, e243, hx243_0⟩ := Kd.at_int HR0.out x22_2 p243 q243
     cases e243
     replace p243 := eq_true p243
     replace q243 := eq_true q243
     have p244 : 0 ≤ (x22_2 : Int) := of_decide_eq_true pD
     have q244 : x22_2 < (l0.length : Int) := of_decide_eq_true pD
     obtain ⟨ad244, e244, hx244_0⟩ := Kd.at_int HR0.out x22_2 p244 q244
     obtain rfl : ad243 = ad244 := (by injection e244)
     replace p244 := eq_true p244
     replace q244 := eq_true q244
     have p245 : 0 ≤ (x22_2 : Int) := of_decide_eq_true pD
     have q245 : x22_2 < (l0.length : Int) := of_decide_eq_true pD
     obtain ⟨ad245, e245, hx245_0⟩ := Kd.at_int HR0.out x22_2 p245 q245
     obtain rfl : ad243 = ad245 := (by injection e245)
     replace p245 := eq_true p245
     replace q245 := eq_true q245
     go_wp2
     go_roundg k2
     case measure => have := HK1.out; have := HK2.out; omega
     case rel => exact ⟨(wrap64 (x4_2 * (rd l0 x22_2))), (wrap64 (x22_2 + 1)), (pF), (pF), H', ⟨by have := HK1.out; have := HK2.out; omega⟩, by repeat (first | exact Drawn0.refl _ | apply Drawn0.step)⟩
mutual
def gradineref20_All.l0 : Nat → List Int → List (List Int) → Int → Int → Option ((List (List Int)))
 | 0, _, _, _, _ => none
 | k + 1, x0, x3, x14, x15 => if x15 < x14 then (gradineref20_All.l1 k x0 x3 x15 ([] : List (List Int)) x14 x15 (x3.length : Int) 0) else (some x3)
def gradineref20_All.l1 : Nat → List Int → List (List Int) → Int → List (List Int) → Int → Int → Int → Int → Option ((List (List Int)))
 | 0, _, _, _, _, _, _, _, _ => none
 | k + 1, x0, x3, x4, x5, x14, x15, x19, x20 => if x20 < x19 then (if 0 ≤ x4 then (if x4 < (x0.length : Int) then (gradineref20_All.l2 k x0 x3 x4 x5 x20 x14 x15 x19 x20 (rd x0 x4) 0) else (none)) else (none)) else (gradineref20_All.l0 k x0 x5 x14 (wrap64 (x15 + 1)))
def gradineref20_All.l2 : Nat → List Int → List (List Int) → Int → List (List Int) → Int → Int → Int → Int → Int → Int → Int → Option ((List (List Int)))
 | 0, _, _, _, _, _, _, _, _, _, _, _ => none
 | k + 1, x0, x3, x4, x5, x6, x14, x15, x19, x20, x26, x27 => if x27 < x26 then ((some (([] : List Int) : List Int)).bind fun y254 => (if 0 ≤ x6 then (if x6 < (x3.length : Int) then (if y254.length + (rd_L1 x3 x6).length < 17592186044416 then ((some (y254 ++ (rd_L1 x3 x6) : List Int)).bind fun y258 => (if y258.length < 17592186044416 then (if x5.length < 5864062014805 then (gradineref20_All.l2 k x0 x3 x4 (x5 ++ [(y258 ++ [x27])]) x6 x14 x15 x19 x20 x26 (wrap64 (x27 + 1))) else (none)) else (none))) else (none)) else (none)) else (none))) else (gradineref20_All.l1 k x0 x3 x4 x5 x14 x15 x19 (wrap64 (x20 + 1)))
end
def gradineref20_All.f (k : Nat) (l0 : List Int) : Option ((List (List Int))) := (gradineref19_Check.f k l0).bind fun t246 => (if t246 = 0 then (gradineref20_All.l0 k l0 (([(([] : List Int))] : List (List Int))) (l0.length : Int) 0) else (some ([] : List (List Int))))
set_option maxHeartbeats 8000000 in
set_option maxRecDepth 100000 in
theorem gradineref20_All.calls (k : Nat) (A0 : Option Addr) (c0 : Nat) (l0 : List Int) (r : List (List Int)) (w : World) (hr0 : Kd.C (Kd.int .i64) w A0 l0.length l0) (hc0 : l0.length ≤ c0) (h : gradineref20_All.f k l0 = some r) :
  Calls Try.prog 38 #[.slice A0 l0.length c0] w fun e w' => ∃ v0_ : Value, e = .returned (v0_) ∧ Kd.N (Kd.slice 3 (Kd.int .i64)) 22 w' w.heap.size (fun k_ => (w.heap.size ≤ k_)) v0_ r ∧ Below w.heap.size w w' := by
 have HR0 := aM hr0
 have HC0 := aM hc0
 clear hr0 hc0
 have HB := aM (Below.refl w.heap.size w)
 have H : ((gradineref19_Check.f k l0).bind fun t246 => (if t246 = 0 then (gradineref20_All.l0 k l0 (([(([] : List Int))] : List (List Int))) (l0.length : Int) 0) else (some ([] : List (List Int))))) = some r := h
 clear h
 replace H := Option.bind_eq_some_iff.mp H
 obtain ⟨t246, A20, H⟩ := H
 try dsimp only at H
 have A2 := aM A20
 clear A20
 by_cases c3 : t246 = 0
 rotate_left
 ·rw [if_neg c3] at H
  have c3b0 : (t246 == 0) = false := beq_eq_false_iff_ne.mpr c3
  have c3b1 : (t246 != 0) = true := bne_iff_ne.mpr c3
  obtain rfl := Option.some.inj H
  go_enter Try.func38, Try.ntmps38
  go_wp2_with (first | ((with_reducible refine gate_callee (f := 15) rfl ?_); refine goesL_ (some 9) rfl rfl Try.func15 (by kernel_rfl) rfl #[.slice A0 l0.length c0] rfl pA ?_; (with_reducible refine (gradineref19_Check.calls k _ _ l0 t246 _ ?s1 ?s2 A2.out).mono ?_); (case s1 => exact pC HR0.out); (case s2 => exact HC0.out); rintro e w' ⟨rfl, ⟨nd, rfl⟩⟩; refine ⟨_, rfl, ?_⟩))
  go_ret
  exact ⟨_, pE, pN, qB HB⟩
 rw [if_pos c3] at H
 have c3b0 : (t246 == 0) = true := beq_iff_eq.mpr c3
 have c3b1 : (t246 != 0) = false := bne_eq_false_iff_eq.mpr c3
 clear c3
 obtain ⟨y247, hy247⟩ : ∃ y_ : List Int, y_ = (([] : List Int)) := ⟨_, rfl⟩
 replace H : (gradineref20_All.l0 k l0 (([y247] : List (List Int))) (l0.length : Int) 0) = some r := pH hy247 H
 have Ny247 := aM hy247
 clear hy247
 obtain ⟨y250, hy250⟩ : ∃ y_ : List (List Int), y_ = (([y247] : List (List Int))) := ⟨_, rfl⟩
 replace H : (gradineref20_All.l0 k l0 y250 (l0.length : Int) 0) = some r := pH hy250 H
 have Ny250 := aM hy250
 clear hy250
 have H' := aM H
 clear H
 go_enter Try.func38, Try.ntmps38
 go_wp2_with (first | ((with_reducible refine gate_callee (f := 15) rfl ?_); refine goesL_ (some 9) rfl rfl Try.func15 (by kernel_rfl) rfl #[.slice A0 l0.length c0] rfl pA ?_; (with_reducible refine (gradineref19_Check.calls k _ _ l0 t246 _ ?s1 ?s2 A2.out).mono ?_); (case s1 => exact pC HR0.out); (case s2 => exact HC0.out); rintro e w' ⟨rfl, ⟨nd, rfl⟩⟩; refine ⟨_, rfl, ?_⟩) | ((with_reducible refine gate_dst (N := 11) rfl ?_); refine Kd.R_lit (Kd.int .i64) _ 3 ?hg (N := 11) ?hd (xs := ([] : List Int)) (inner := []) (ok := fun _ => True) (okp := fun _ => True) ?hr ?hp (fun _ hk => hk) trivial (Below.refl _ _) (Nat.le_refl _) (by simp) ?_; (case hd => rfl); (case hg => rfl); (case hr => first | (go_simp; done) | (go_simp; rfl)); (case hp => exact (Reps.none _ _)); intro v248 w4 ho5 hb hg_ hnew_; clear hg_ hnew_; (first | rw [← Ny247.out] at ho5 | (simp only [Int.reduceToNat] at ho5; rw [← Ny247.out] at ho5)); have HO249 := aM (Kd.R_lower (Kd.R_newM (M := fun k_ => (w.heap.size ≤ k_)) ho5 (below_size (qB HB)) (fun k_ h_ => h_)) (below_size (qB HB))); replace HB := bS (qB HB) hb; clear hb ho5; obtain ⟨Ao6, co6, eo6⟩ := Kd.R_slice HO249.out; subst eo6) | ((with_reducible refine gate_dst (N := 12) rfl ?_); refine Kd.N_lit (Kd.slice 3 (Kd.int .i64)) _ 22 ?hg (N' := 12) ?hd (xs := ([y247] : List (List Int))) (inner := [.slice Ao6 y247.length co6]) (ok := (fun k_ => (w.heap.size ≤ k_))) (okp := (fun k_ => (w.heap.size ≤ k_))) ?hr ?hp (fun _ hk => hk) ((show ∀ k_, w4.heap.size ≤ k_ → (fun k_ => (w.heap.size ≤ k_)) k_ from fun k_ hk => (Nat.le_trans (below_size (qB HB)) hk)) _ (Nat.le_refl _)) (Below.refl _ _) (Nat.le_refl _) (by simp) ?_; (case hd => rfl); (case hg => rfl); (case hr => first | (go_simp; done) | (go_simp; rfl)); (case hp => exact (Reps.one (show Kd.FK (Kd.slice 3 (Kd.int .i64)) _ _ y247 [.slice Ao6 y247.length co6] from (Kd.FK_slice_mk (Kd.R_reads' (Kd.R_mono (ok' := (fun k_ => (w.heap.size ≤ k_))) (HO249.out) (fun k_ hk => hk.1))).2.1 (Kd.R_F (Kd.R_mono (ok' := (fun k_ => (w.heap.size ≤ k_))) (HO249.out) (fun k_ hk => hk.1))))) (Reps.none _ _))); intro v251 w7 ho8 hb hg_ hnew_; clear hg_ hnew_; (first | rw [← Ny250.out] at ho8 | (simp only [Int.reduceToNat] at ho8; rw [← Ny250.out] at ho8)); have HO252 := aM (Kd.N_lower ho8 (below_size (qB HB))); replace HB := bS (qB HB) hb; clear HO249; clear hb ho8))
 go_loopg [3, 15] k (fun kq v3 v15 w' => ∃ (x3_1 : List (List Int)) (x15_1 : Int), v15 = .int .i64 x15_1 ∧ Aside0 (gradineref20_All.l0 kq l0 x3_1 (l0.length : Int) x15_1 = some r) ∧ Aside0 (kq ≤ k) ∧ Aside0 (Kd.N (Kd.slice 3 (Kd.int .i64)) 22 w' w.heap.size (fun k_ => (w.heap.size ≤ k_)) v3 x3_1) ∧ Aside0 (Below w.heap.size w w'))
 case atStart => exact ⟨(y250), (0), (pF), H', ⟨Nat.le_refl _⟩, ⟨by (with_reducible repeat (first | apply Kd.N_alloc | apply Kd.N_drewN | apply Kd.N_drew)); exact HO252.out⟩, ⟨qB HB⟩⟩
 case round =>
  clear H'
  try clear c3b0
  try clear c3b1
  obtain ⟨x3_1, x15_1, rfl, HA, HK1, HO_3, HB⟩ := hrel
  cases gk with
  | zero => exact absurd HA.out (by simp [gradineref20_All.l0])
  | succ k1 =>
   have H := HA.out
   clear HA
   simp only [gradineref20_All.l0] at H
   by_cases c9 : x15_1 < (l0.length : Int)
   rotate_left
   ·rw [if_neg c9] at H
    have c9b0 : decide (x15_1 < (l0.length : Int)) = false := decide_eq_false c9
    clear c9
    obtain rfl := Option.some.inj H
    go_wp2
    go_ret
    exact ⟨_, pE, by (with_reducible repeat (first | apply Kd.N_alloc | apply Kd.N_drewN | apply Kd.N_drew)); exact HO_3.out, qB HB⟩
   rw [if_pos c9] at H
   have c9b0 : decide (x15_1 < (l0.length : Int)) = true := decide_eq_true c9
   clear c9
   have H' := aM H
   clear H
   obtain ⟨Ao10, co10, eo10⟩ := Kd.N_slice HO_3.out
   subst eo10
   go_wp2
   go_loopg [5, 20] k1 (fun kq v5 v20 w' => ∃ (x5_2 : List (List Int)) (x20_2 : Int), v20 = .int .i64 x20_2 ∧ Aside0 (gradineref20_All.l1 kq l0 x3_1 x15_1 x5_2 (l0.length : Int) x15_1 (x3_1.length : Int) x20_2 = some r) ∧ Aside0 (kq ≤ k1) ∧ Aside0 (Kd.N (Kd.slice 3 (Kd.int .i64)) 22 w' w.heap.size (fun k_ => (w.heap.size ≤ k_) ∧ some k_ ≠ (v5 : Value).ownBlock) (.slice Ao10 x3_1.length co10) x3_1) ∧ Aside0 (Kd.N (Kd.slice 3 (Kd.int .i64)) 22 w' w.heap.size (fun k_ => (w.heap.size ≤ k_) ∧ some k_ ≠ ((.slice Ao10 x3_1.length co10) : Value).ownBlock) v5 x5_2) ∧ Aside0 (Below w.heap.size w w'))
   case atStart => exact ⟨(([] : List (List Int))), (0), (pF), H', ⟨Nat.le_refl _⟩, ⟨by (with_reducible repeat (first | apply Kd.N_alloc | apply Kd.N_drewN | apply Kd.N_drew)); exact Kd.N_mono HO_3.out (fun _ hk => ⟨hk, (by simp [Value.ownBlock])⟩)⟩, ⟨pN⟩, ⟨qB HB⟩⟩
   case round =>
    clear H'
    try clear c9b0
    obtain ⟨x5_2, x20_2, rfl, HA, HK2, HO_3, HO_5, HB⟩ := hrel
    cases gk with
    | zero => exact absurd HA.out (by simp [gradineref20_All.l1])
    | succ k2 =>
     have H := HA.out
     clear HA
     simp only [gradineref20_All.l1] at H
     by_cases c11 : x20_2 < (x3_1.length : Int)
     rotate_left
     ·rw [if_neg c11] at H
      have c11b0 : decide (x20_2 < (x3_1.length : Int)) = false := decide_eq_false c11
      clear c11
      have H' := aM H
      clear H
      go_wp2
      go_roundg k2
      case measure => have := HK1.out; have := HK2.out; omega
      case rel => exact ⟨(x5_2), (wrap64 (x15_1 + 1)), (pF), H', ⟨by have := HK1.out; have := HK2.out; omega⟩, ⟨by (with_reducible repeat (first | apply Kd.N_alloc | apply Kd.N_drewN | apply Kd.N_drew)); exact Kd.N_mono HO_5.out (fun _ hk => hk.1)⟩, ⟨qB HB⟩⟩
     rw [if_pos c11] at H
     have c11b0 : decide (x20_2 < (x3_1.length : Int)) = true := decide_eq_true c11
     clear c11
     by_cases c12 : 0 ≤ x15_1
     rotate_left
     ·rw [if_neg c12] at H
      exact absurd H (by simp)
     rw [if_pos c12] at H
     have c12b0 : decide (0 ≤ x15_1) = true := decide_eq_true c12
     clear c12
     by_cases c13 : x15_1 < (l0.length : Int)
     rotate_left
     ·rw [if_neg c13] at H
      exact absurd H (by simp)
     rw [if_pos c13] at H
     have c13b0 : decide (x15_1 < (l0.length : Int)) = true := decide_eq_true c13
     clear c13
     have H' := aM H
     clear H
     have p253 : 0 ≤ (x15_1 : Int) := of_decide_eq_true pD
     have q253 : x15_1 < (l0.length : Int) := of_decide_eq_true pD
     obtain ⟨ad253, e253, hx253_0⟩ := Kd.at_int HR0.out x15_1 p253 q253
     cases e253
     replace hx253_0 := (HB.out.cell (World.block_lt_of_cell? w _ hx253_0)).trans hx253_0
     replace p253 := eq_true p253
     replace q253 := eq_true q253
     go_wp2
     go_loopg [5, 27] k2 (fun kq v5 v27 w' => ∃ (x5_3 : List (List Int)) (x27_3 : Int), v27 = .int .i64 x27_3 ∧ Aside0 (gradineref20_All.l2 kq l0 x3_1 x15_1 x5_3 x20_2 (l0.length : Int) x15_1 (x3_1.length : Int) x20_2 (rd l0 x15_1) x27_3 = some r) ∧ Aside0 (kq ≤ k2) ∧ Aside0 (Kd.N (Kd.slice 3 (Kd.int .i64)) 22 w' w.heap.size (fun k_ => (w.heap.size ≤ k_) ∧ some k_ ≠ (v5 : Value).ownBlock) (.slice Ao10 x3_1.length co10) x3_1) ∧ Aside0 (Kd.N (Kd.slice 3 (Kd.int .i64)) 22 w' w.heap.size (fun k_ => (w.heap.size ≤ k_) ∧ some k_ ≠ ((.slice Ao10 x3_1.length co10) : Value).ownBlock) v5 x5_3) ∧ Aside0 (Below w.heap.size w w'))
     case atStart => exact ⟨(x5_2), (0), (pF), H', ⟨Nat.le_refl _⟩, ⟨by (with_reducible repeat (first | apply Kd.N_alloc | apply Kd.N_drewN | apply Kd.N_drew)); exact HO_3.out⟩, ⟨by (with_reducible repeat (first | apply Kd.N_alloc | apply Kd.N_drewN | apply Kd.N_drew)); exact HO_5.out⟩, ⟨qB HB⟩⟩
     case round =>
      clear H'
      try clear c11b0
      try clear c12b0
      try clear c13b0
      try clear hx253_0
      try clear p253
      try clear q253
      obtain ⟨x5_3, x27_3, rfl, HA, HK3, HO_3, HO_5, HB⟩ := hrel
      cases gk with
      | zero => exact absurd HA.out (by simp [gradineref20_All.l2])
      | succ k3 =>
       have H := HA.out
       clear HA
       simp only [gradineref20_All.l2] at H
       by_cases c14 : x27_3 < (rd l0 x15_1)
       rotate_left
       ·rw [if_neg c14] at H
        have c14b0 : decide (x27_3 < (rd l0 x15_1)) = false := decide_eq_false c14
        clear c14
        have H' := aM H
        clear H
        go_wp2
        go_roundg k3
        case measure => have := HK1.out; have := HK2.out; have := HK3.out; omega
        case rel => exact ⟨(x5_3), (wrap64 (x20_2 + 1)), (pF), H', ⟨by have := HK1.out; have := HK2.out; have := HK3.out; omega⟩, ⟨by (with_reducible repeat (first | apply Kd.N_alloc | apply Kd.N_drewN | apply Kd.N_drew)); exact HO_3.out⟩, ⟨by (with_reducible repeat (first | apply Kd.N_alloc | apply Kd.N_drewN | apply Kd.N_drew)); exact HO_5.out⟩, ⟨qB HB⟩⟩
       rw [if_pos c14] at H
       have c14b0 : decide (x27_3 < (rd l0 x15_1)) = true := decide_eq_true c14
       clear c14
       obtain ⟨y254, hy254⟩ : ∃ y_ : List Int, y_ = (([] : List Int)) := ⟨_, rfl⟩
       replace H : (if 0 ≤ x20_2 then (if x20_2 < (x3_1.length : Int) then (if y254.length + (rd_L1 x3_1 x20_2).length < 17592186044416 then ((some (y254 ++ (rd_L1 x3_1 x20_2) : List Int)).bind fun y258 => (if y258.length < 17592186044416 then (if x5_3.length < 5864062014805 then (gradineref20_All.l2 k3 l0 x3_1 x15_1 (x5_3 ++ [(y258 ++ [x27_3])]) x20_2 (l0.length : Int) x15_1 (x3_1.length : Int) x20_2 (rd l0 x15_1) (wrap64 (x27_3 + 1))) else (none)) else (none))) else (none)) else (none)) else (none)) = some r := pH hy254 H
       have Ny254 := aM hy254
       clear hy254
       by_cases c15 : 0 ≤ x20_2
       rotate_left
       ·rw [if_neg c15] at H
        exact absurd H (by simp)
       rw [if_pos c15] at H
       have c15b0 : decide (0 ≤ x20_2) = true := decide_eq_true c15
       clear c15
       by_cases c16 : x20_2 < (x3_1.length : Int)
       rotate_left
       ·rw [if_neg c16] at H
        exact absurd H (by simp)
       rw [if_pos c16] at H
       have c16b0 : decide (x20_2 < (x3_1.length : Int)) = true := decide_eq_true c16
       clear c16
       by_cases c17 : y254.length + (rd_L1 x3_1 x20_2).length < 17592186044416
       rotate_left
       ·rw [if_neg c17] at H
        exact absurd H (by simp)
       rw [if_pos c17] at H
       have LMc17 := aM c17
       clear c17
       obtain ⟨y258, hy258⟩ : ∃ y_ : List Int, y_ = (y254 ++ (rd_L1 x3_1 x20_2)) := ⟨_, rfl⟩
       replace H : (if y258.length < 17592186044416 then (if x5_3.length < 5864062014805 then (gradineref20_All.l2 k3 l0 x3_1 x15_1 (x5_3 ++ [(y258 ++ [x27_3])]) x20_2 (l0.length : Int) x15_1 (x3_1.length : Int) x20_2 (rd l0 x15_1) (wrap64 (x27_3 + 1))) else (none)) else (none)) = some r := pH hy258 H
       have Ny258 := aM hy258
       clear hy258
       by_cases c18 : y258.length < 17592186044416
       rotate_left
       ·rw [if_neg c18] at H
        exact absurd H (by simp)
       rw [if_pos c18] at H
       have LMc18 := aM c18
       clear c18
       obtain ⟨y261, hy261⟩ : ∃ y_ : List Int, y_ = (y258 ++ [x27_3]) := ⟨_, rfl⟩
       replace H : (if x5_3.length < 5864062014805 then (gradineref20_All.l2 k3 l0 x3_1 x15_1 (x5_3 ++ [y261]) x20_2 (l0.length : Int) x15_1 (x3_1.length : Int) x20_2 (rd l0 x15_1) (wrap64 (x27_3 + 1))) else (none)) = some r := pH hy261 H
       have Ny261 := aM hy261
       clear hy261
       by_cases c19 : x5_3.length < 5864062014805
       rotate_left
       ·rw [if_neg c19] at H
        exact absurd H (by simp)
       rw [if_pos c19] at H
       have LMc19 := aM c19
       clear c19
       obtain ⟨y264, hy264⟩ : ∃ y_ : List (List Int), y_ = (x5_3 ++ [y261]) := ⟨_, rfl⟩
       replace H : (gradineref20_All.l2 k3 l0 x3_1 x15_1 y264 x20_2 (l0.length : Int) x15_1 (x3_1.length : Int) x20_2 (rd l0 x15_1) (wrap64 (x27_3 + 1))) = some r := pH hy264 H
       have Ny264 := aM hy264
       clear hy264
       have H' := aM H
       clear H
       go_wp2_with (first | ((with_reducible refine gate_dst (N := 31) rfl ?_); refine Kd.R_lit (Kd.int .i64) _ 3 ?hg (N := 31) ?hd (xs := ([] : List Int)) (inner := []) (ok := fun _ => True) (okp := fun _ => True) ?hr ?hp (fun _ hk => hk) trivial (Below.refl _ _) (Nat.le_refl _) (by simp) ?_; (case hd => rfl); (case hg => rfl); (case hr => first | (go_simp; done) | (go_simp; rfl)); (case hp => exact (Reps.none _ _)); intro v255 w20 ho21 hb hg_ hnew_; clear hg_ hnew_; (first | rw [← Ny254.out] at ho21 | (simp only [Int.reduceToNat] at ho21; rw [← Ny254.out] at ho21)); replace HO_3 := aM (Kd.N_elder' (by (with_reducible repeat (first | apply Kd.N_alloc | apply Kd.N_drewN | apply Kd.N_drew)); exact HO_3.out) (Kd.R_base ho21) hb); replace HO_5 := aM (Kd.N_elder' (by (with_reducible repeat (first | apply Kd.N_alloc | apply Kd.N_drewN | apply Kd.N_drew)); exact HO_5.out) (Kd.R_base ho21) hb); have HO256 := aM (Kd.R_lower (Kd.R_newM (M := fun k_ => (w.heap.size ≤ k_)) ho21 (below_size (qB HB)) (fun k_ h_ => h_)) (below_size (qB HB))); replace HB := bS (qB HB) hb; clear hb ho21; have p257 : 0 ≤ (x20_2 : Int) := of_decide_eq_true pD; have q257 : x20_2 < (x3_1.length : Int) := of_decide_eq_true pD; obtain ⟨ad257, A257_0, c257_0, e257, hx257_0, hl257_0, hi257_0⟩ := at_L1 (Kd.N_reads' HO_3.out).2.2 x20_2 p257 q257; cases e257; obtain ⟨ce257, hce257, hMe257, hcc257⟩ := Kd.N_get HO_3.out [] x20_2 p257 (by first | exact q257 | exact of_decide_eq_true pD | (have e_ := (Kd.N_reads' HO_3.out).1; omega)); obtain ⟨ua257_0, uc257_0, rfl, ul257_0, ge257_0⟩ := Kd.FK_slice_open hMe257; have hv257_0 := hcc257 0 _ rfl; rw [Nat.add_zero, show ((Kd.slice 3 (Kd.int .i64))).sz = 1 from rfl, Nat.mul_one] at hv257_0; replace hv257_0 := Option.some.inj (hv257_0.symm.trans hx257_0); injection hv257_0 with hva_ hvn_ hvc_; rw [hva_] at ge257_0; rw [hvc_] at ul257_0; have HL257_0 := aM (show Kd.V (Kd.int .i64) 3 _ w.heap.size _ _ (rd_L1 x3_1 x20_2) from Kd.V_mk ul257_0 ge257_0); clear hva_ hvn_ hvc_ ge257_0 ul257_0; clear hcc257 hce257; have HR257_0 := aM hi257_0; have HC257_0 := aM hl257_0; clear hi257_0 hl257_0; replace p257 := eq_true p257; replace q257 := eq_true q257) | ((with_reducible refine gate_builtin (b := .append) (xs := #[.tmp 31, .tmp 35]) rfl ?_); at_builtin; refine Kd.R_append_rows (Kd.int .i64) (w0 := w) w.heap.size rfl (.tmp 31) (.tmp 35) 22 3 (.int .i64 0) 8 rfl Try.underlying22 info3 rfl (by decide) (by omega) v255 y254 (rd_L1 x3_1 x20_2) _ _ _ (fun k_ => (w.heap.size ≤ k_)) (fun _ => False) rfl rfl ?aO ?aR (fun _ _ h => h) (fun _ h => h.elim) ?aF ?aB ?aS ?aL ?_; (case aR => repeat (first | exact (by repeat (first | (with_reducible exact HR257_0.out) | (with_reducible refine Kd.C_alloc ?_ _) | (with_reducible refine Kd.C_drewN ?_ _) | (with_reducible refine Kd.C_drew ?_) | exact HR257_0.out)) | (with_reducible refine Kd.C_alloc ?_ _) | (with_reducible refine Kd.C_drewN ?_ _) | (with_reducible refine Kd.C_drew ?_))); (case aB => exact (qB HB)); (case aF => exact (fun k_ hk => (Nat.le_trans (below_size (qB HB)) hk))); (case aO => exact (by (with_reducible repeat (first | apply rA | apply rN | apply rD)); exact Kd.R_mono HO256.out (fun _ hk => hk.1))); (case aS => exact (below_size (qB HB))); (case aL => have := LMc17.out; omega); intro v259 w22 ho hb hg hat; rw [← Ny258.out] at ho; replace HO_3 := aM (Kd.N_afterv (ok := (fun k_ => (w.heap.size ≤ k_) ∧ some k_ ≠ (u5 : Value).ownBlock)) (by (with_reducible repeat (first | apply Kd.N_alloc | apply Kd.N_drewN | apply Kd.N_drew)); exact HO_3.out) hg hat); replace HO_5 := aM (Kd.N_afterv (ok := (fun k_ => (w.heap.size ≤ k_) ∧ some k_ ≠ (.slice (some ad257) x3_1.length co10 : Value).ownBlock)) (by (with_reducible repeat (first | apply Kd.N_alloc | apply Kd.N_drewN | apply Kd.N_drew)); exact HO_5.out) hg hat); replace HL257_0 := aM (Kd.V_afterv (ok := (fun k_ => (w.heap.size ≤ k_) ∧ some k_ ≠ (.slice (some ad257) x3_1.length co10 : Value).ownBlock ∧ some k_ ≠ (u5 : Value).ownBlock)) (by (with_reducible repeat (first | apply Kd.V_alloc | apply Kd.V_drewN | apply Kd.V_drew)); exact Kd.V_mono HL257_0.out (fun _ hk => ⟨⟨hk.1.1.1, ⟨hk.2, hk.1.1.2⟩⟩, hk.1.2⟩)) hg hat); replace HB := aM (hb); have HO260 := aM (ho); clear HO256; clear ho hb hg hat) | ((with_reducible refine gate_builtin (b := .append) (xs := #[.tmp 36, .tmp 38]) rfl ?_); at_builtin; refine Kd.R_append (Kd.int .i64) (w0 := w) w.heap.size rfl (.tmp 36) (.tmp 38) 22 3 (.int .i64 0) 8 rfl Try.underlying22 info3 rfl (by decide) (by omega) v259 y258 x27_3 [.int .i64 x27_3] (fun k_ => (w.heap.size ≤ k_)) (fun _ => False) rfl rfl ?aP (fun _ hk => hk.elim) ?aF ?aO ?aB ?aS ?aL ?_; (case aP => exact rfl); (case aB => exact (qB HB)); (case aF => exact (fun k_ hk => (Nat.le_trans (below_size (qB HB)) hk))); (case aO => exact (pR HO260.out)); (case aS => exact (below_size (qB HB))); (case aL => have := LMc18.out; omega); intro v262 w23 ho hb hg hat; rw [← Ny261.out] at ho; replace HO_3 := aM (Kd.N_afterv (ok := (fun k_ => (w.heap.size ≤ k_) ∧ some k_ ≠ (u5 : Value).ownBlock)) (by (with_reducible repeat (first | apply Kd.N_alloc | apply Kd.N_drewN | apply Kd.N_drew)); exact HO_3.out) hg hat); replace HO_5 := aM (Kd.N_afterv (ok := (fun k_ => (w.heap.size ≤ k_) ∧ some k_ ≠ (.slice (some ad257) x3_1.length co10 : Value).ownBlock)) (by (with_reducible repeat (first | apply Kd.N_alloc | apply Kd.N_drewN | apply Kd.N_drew)); exact HO_5.out) hg hat); replace HL257_0 := aM (Kd.V_afterv (ok := (fun k_ => (w.heap.size ≤ k_) ∧ some k_ ≠ (.slice (some ad257) x3_1.length co10 : Value).ownBlock ∧ some k_ ≠ (u5 : Value).ownBlock)) (pV HL257_0.out) hg hat); replace HB := aM (hb); have HO263 := aM (ho); clear HO260; clear ho hb hg hat; obtain ⟨Ao25, co25, eo25⟩ := Kd.R_slice HO263.out; subst eo25) | ((with_reducible refine gate_builtin (b := .append) (xs := #[.tmp 30, .tmp 40]) rfl ?_); at_builtin; refine Kd.N_append (Kd.slice 3 (Kd.int .i64)) (w0 := w) w.heap.size rfl (.tmp 30) (.tmp 40) 59 22 (.slice none 0 0) 24 rfl Try.underlying59 info22 rfl (by decide) (by omega) u5 x5_3 y261 [.slice Ao25 y261.length co25] (fun k_ => (w.heap.size ≤ k_) ∧ some k_ ≠ (.slice (some ad257) x3_1.length co10 : Value).ownBlock) (fun k_ => ((fun k_ => (w.heap.size ≤ k_) ∧ some k_ ≠ (.slice (some ad257) x3_1.length co10 : Value).ownBlock)) k_ ∧ some k_ ≠ (u5 : Value).ownBlock) rfl rfl ?aP (fun _ hk => hk) ?aF ?aO ?aB ?aS ?aL ?_; (case aP => exact (Kd.FK_slice_mk (Kd.R_reads' (Kd.R_mono (ok' := (fun k_ => ((fun k_ => (w.heap.size ≤ k_) ∧ some k_ ≠ (.slice (some ad257) x3_1.length co10 : Value).ownBlock)) k_ ∧ some k_ ≠ (u5 : Value).ownBlock)) (Kd.R_apart' (Kd.R_apart' (HO263.out) (Kd.N_typed HO_3.out) (by decide)) (Kd.N_typed HO_5.out) (by decide)) (fun k_ hk => ⟨⟨hk.1.1, hk.1.2⟩, hk.2⟩))).2.1 (Kd.R_F (Kd.R_mono (ok' := (fun k_ => ((fun k_ => (w.heap.size ≤ k_) ∧ some k_ ≠ (.slice (some ad257) x3_1.length co10 : Value).ownBlock)) k_ ∧ some k_ ≠ (u5 : Value).ownBlock)) (Kd.R_apart' (Kd.R_apart' (HO263.out) (Kd.N_typed HO_3.out) (by decide)) (Kd.N_typed HO_5.out) (by decide)) (fun k_ hk => ⟨⟨hk.1.1, hk.1.2⟩, hk.2⟩))))); (case aB => exact (qB HB)); (case aF => exact (fun k_ hk => ⟨(Nat.le_trans (below_size (qB HB)) hk), Kd.fresh' (Kd.N_lt (by (with_reducible repeat (first | apply Kd.N_alloc | apply Kd.N_drewN | apply Kd.N_drew)); exact HO_3.out)) k_ hk⟩)); (case aO => exact (by (with_reducible repeat (first | apply Kd.N_alloc | apply Kd.N_drewN | apply Kd.N_drew)); exact Kd.N_mono HO_5.out (fun _ hk => ⟨hk.1.1, hk.1.2⟩))); (case aS => exact (below_size (qB HB))); (case aL => have := LMc19.out; omega); intro v265 w24 ho hb hg hat; rw [← Ny264.out] at ho; replace HO_3 := aM (Kd.N_afterv (ok := (fun k_ => (w.heap.size ≤ k_) ∧ some k_ ≠ (.slice Ao25 y261.length co25 : Value).ownBlock)) (by (with_reducible repeat (first | apply Kd.N_alloc | apply Kd.N_drewN | apply Kd.N_drew)); exact Kd.N_mono HO_3.out (fun _ hk => ⟨⟨hk.1.1, hk.2⟩, hk.1.2⟩)) hg hat); replace HL257_0 := aM (Kd.V_afterv (ok := (fun k_ => (w.heap.size ≤ k_) ∧ some k_ ≠ (.slice (some ad257) x3_1.length co10 : Value).ownBlock ∧ some k_ ≠ (.slice Ao25 y261.length co25 : Value).ownBlock)) (by (with_reducible repeat (first | apply Kd.V_alloc | apply Kd.V_drewN | apply Kd.V_drew)); exact Kd.V_mono HL257_0.out (fun _ hk => ⟨⟨hk.1.1, ⟨hk.1.2.1, hk.2⟩⟩, hk.1.2.2⟩)) hg hat); replace HB := aM (hb); have HO266 := aM (ho); clear HO_5 HO263; clear ho hb hg hat))
       go_roundg k3
       case measure => have := HK1.out; have := HK2.out; have := HK3.out; omega
       case rel => exact ⟨(y264), (wrap64 (x27_3 + 1)), (pF), H', ⟨by have := HK1.out; have := HK2.out; have := HK3.out; omega⟩, ⟨by (with_reducible repeat (first | apply Kd.N_alloc | apply Kd.N_drewN | apply Kd.N_drew)); exact Kd.N_mono HO_3.out (fun _ hk => ⟨hk.1.1, hk.2⟩)⟩, ⟨by (with_reducible repeat (first | apply Kd.N_alloc | apply Kd.N_drewN | apply Kd.N_drew)); exact HO266.out⟩, ⟨qB HB⟩⟩
end Go.Proofs.Ytjbpekblcecneaa.Q
