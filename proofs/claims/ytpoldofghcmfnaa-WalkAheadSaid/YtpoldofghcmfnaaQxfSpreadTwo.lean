-- Written by this session's program wip/gprint.py, which drives the kit's print.py and puts the session's own texts in for some functions.
import Derived.Test.YtpoldofghcmfnaaQx0
import Derived.Test.YtpoldofghcmfnaaQxfShapeCheck
import Derived.Test.YtpoldofghcmfnaaQxfSpreadSize
namespace Go.Proofs.Ytpoldofghcmfnaa.Q
open Go.RowKit Go.Proofs.YtpoldofghcmfnaaW.PrintWords Go.Proofs.YtpoldofghcmfnaaW.PrintLast Go.Proofs.YtpoldofghcmfnaaW.PrintMore
attribute [local go_sem] max2_int min2_int max_two min_two max_three min_three max_four min_four   -- for this text's walks alone
set_option linter.unusedVariables false
set_option linter.unusedSimpArgs false

/-! ### spread_Two: function 37 -/
mutual
def spread_Two.l0 : Nat → List Int → List Int → List (List Int) → Int → Int → Option (List Int × Int)
 | 0, _, _, _, _, _ => none
 | k + 1, x0, x1, x17, x18, x19 => if x19 < x18 then (if 0 ≤ x19 then (if x19 < (x17.length : Int) then ((shape_Check.f (rd_L1 x17 x19)).bind fun t428 => (if t428 = 0 then (spread_Two.l0 k x0 x1 x17 x18 (wrap64 (x19 + 1))) else (some (([] : List Int), t428)))) else (none)) else (none)) else (if 0 ≤ (mx (x0.length : Int) (x1.length : Int)) then (if (mx (x0.length : Int) (x1.length : Int) : Int).toNat ≤ 35184372088832 then (spread_Two.l1 k x0 x1 (mx (x0.length : Int) (x1.length : Int)) (List.replicate (mx (x0.length : Int) (x1.length : Int) : Int).toNat 0) 1) else (none)) else (none))
def spread_Two.l1 : Nat → List Int → List Int → Int → List Int → Int → Option (List Int × Int)
 | 0, _, _, _, _, _ => none
 | k + 1, x0, x1, x9, x10, x11 => if x11 ≤ x9 then ((spread_size.f x0 x11).bind fun t433 => ((spread_size.f x1 x11).bind fun t434 => (if t433 = t434 then (if 0 ≤ (wrap64 (x9 - x11)) then (if (wrap64 (x9 - x11)) < (x10.length : Int) then (spread_Two.l1 k x0 x1 x9 (x10.set ((wrap64 (x9 - x11)) : Int).toNat (mx t433 t434)) (wrap64 (x11 + 1))) else (none)) else (none)) else (if t433 = 1 then (if 0 ≤ (wrap64 (x9 - x11)) then (if (wrap64 (x9 - x11)) < (x10.length : Int) then (spread_Two.l1 k x0 x1 x9 (x10.set ((wrap64 (x9 - x11)) : Int).toNat (mx t433 t434)) (wrap64 (x11 + 1))) else (none)) else (none)) else (if t434 = 1 then (if 0 ≤ (wrap64 (x9 - x11)) then (if (wrap64 (x9 - x11)) < (x10.length : Int) then (spread_Two.l1 k x0 x1 x9 (x10.set ((wrap64 (x9 - x11)) : Int).toNat (mx t433 t434)) (wrap64 (x11 + 1))) else (none)) else (none)) else (some (([] : List Int), 8))))))) else ((shape_Check.f x10).bind fun t432 => (if t432 = 0 then (some (x10, 0)) else (some (([] : List Int), t432))))
end
def spread_Two.f (k : Nat) (l0 : List Int) (l1 : List Int) : Option (List Int × Int) := (some (([l0, l1] : List (List Int)) : List (List Int))).bind fun y424 => (spread_Two.l0 k l0 l1 y424 (y424.length : Int) 0)
set_option maxHeartbeats 8000000 in
set_option maxRecDepth 100000 in
theorem spread_Two.calls (k : Nat) (P0_ : Nat → Prop) (A0 : Option Addr) (c0 : Nat) (l0 : List Int) (P1_ : Nat → Prop) (A1 : Option Addr) (c1 : Nat) (l1 : List Int) (r1 : List Int) (r2 : Int) (w : World) (hs0 : Kd.V (Kd.int .i64) 3 w w.heap.size (fun k_ => P0_ k_) (.slice A0 l0.length c0) l0) (hs1 : Kd.V (Kd.int .i64) 3 w w.heap.size (fun k_ => P1_ k_) (.slice A1 l1.length c1) l1) (h : spread_Two.f k l0 l1 = some (r1, r2)) :
  Calls Try.prog 37 #[.slice A0 l0.length c0, .slice A1 l1.length c1] w fun e w' => ∃ v0_ : Value, e = .returned (.tuple #[v0_, .int .i64 r2]) ∧ Kd.R (Kd.int .i64) 3 w' w.heap.size (fun k_ => (w.heap.size ≤ k_)) v0_ r1 ∧ Below w.heap.size w w' := by
 have HO0 := Aside0.mk (show Kd.V (Kd.int .i64) 3 w w.heap.size (fun k_ => ((P0_ k_ ∨ P1_ k_) ∨ w.heap.size ≤ k_)) (.slice A0 l0.length c0) l0 from Kd.V_mono hs0 (fun k_ hk => .inl (.inl hk)))
 have HO1 := Aside0.mk (show Kd.V (Kd.int .i64) 3 w w.heap.size (fun k_ => ((P0_ k_ ∨ P1_ k_) ∨ w.heap.size ≤ k_)) (.slice A1 l1.length c1) l1 from Kd.V_mono hs1 (fun k_ hk => .inl (.inr hk)))
 have HB := Aside0.mk (Below.refl w.heap.size w)
 have H : ((some (([l0, l1] : List (List Int)) : List (List Int))).bind fun y424 => (spread_Two.l0 k l0 l1 y424 (y424.length : Int) 0)) = some (r1, r2) := h
 clear h
 obtain ⟨y424, hy424⟩ : ∃ y_ : List (List Int), y_ = (([l0, l1] : List (List Int))) := ⟨_, rfl⟩
 replace H : (spread_Two.l0 k l0 l1 y424 (y424.length : Int) 0) = some (r1, r2) := by first | (rw [hy424]; with_reducible exact H) | (have H2_ := (Option.bind_some _ _).symm.trans H; rw [hy424]; with_reducible exact H2_) | (have H2_ := (Option.bind_some _ _).symm.trans H; with_reducible exact H2_) | with_reducible exact H | (rw [hy424]; exact H) | exact H
 have Ny424 := Aside0.mk hy424
 clear hy424
 have H' := Aside0.mk H
 clear H
 go_enter Try.func37, Try.ntmps37
 go_wp2_with (first | ((with_reducible refine gate_dst (N := 17) rfl ?_); refine Kd.N_lit (Kd.slice 3 (Kd.int .i64)) _ 22 ?hg (N' := 17) ?hd (xs := ([l0, l1] : List (List Int))) (inner := [.slice A0 l0.length c0, .slice A1 l1.length c1]) (ok := (fun k_ => ((P0_ k_ ∨ P1_ k_) ∨ w.heap.size ≤ k_))) (okp := (fun k_ => ((P0_ k_ ∨ P1_ k_) ∨ w.heap.size ≤ k_))) ?hr ?hp (fun _ hk => hk) ((show ∀ k_, w.heap.size ≤ k_ → (fun k_ => ((P0_ k_ ∨ P1_ k_) ∨ w.heap.size ≤ k_)) k_ from fun k_ hk => (.inr (Nat.le_trans (below_size (pB HB.out)) hk))) _ (Nat.le_refl _)) (Below.refl _ _) (Nat.le_refl _) (by simp) ?_; (case hd => rfl); (case hg => rfl); (case hr => first | (go_simp; done) | (go_simp; rfl)); (case hp => exact (Reps.one (show Kd.FK (Kd.slice 3 (Kd.int .i64)) _ _ l0 [.slice A0 l0.length c0] from (Kd.FK_slice_mk (Kd.V_reads' (Kd.V_mono (ok' := (fun k_ => ((P0_ k_ ∨ P1_ k_) ∨ w.heap.size ≤ k_))) (HO0.out) (fun k_ hk => hk))).2.1 (Kd.V_F (Kd.V_mono (ok' := (fun k_ => ((P0_ k_ ∨ P1_ k_) ∨ w.heap.size ≤ k_))) (HO0.out) (fun k_ hk => hk))))) (Reps.one (show Kd.FK (Kd.slice 3 (Kd.int .i64)) _ _ l1 [.slice A1 l1.length c1] from (Kd.FK_slice_mk (Kd.V_reads' (Kd.V_mono (ok' := (fun k_ => ((P0_ k_ ∨ P1_ k_) ∨ w.heap.size ≤ k_))) (HO1.out) (fun k_ hk => hk))).2.1 (Kd.V_F (Kd.V_mono (ok' := (fun k_ => ((P0_ k_ ∨ P1_ k_) ∨ w.heap.size ≤ k_))) (HO1.out) (fun k_ hk => hk))))) (Reps.none _ _)))); intro v425 w3 ho4 hb hg_ hnew_; clear hg_ hnew_; (first | rw [← Ny424.out] at ho4 | (simp only [Int.reduceToNat] at ho4; rw [← Ny424.out] at ho4)); have n0_ := Aside0.mk (Kd.V_elder' (pV HO0.out) (Kd.N_base ho4) hb); have n1_ := Aside0.mk (Kd.V_elder' (pV HO1.out) (Kd.N_base ho4) hb); have n2_ := Aside0.mk (Kd.N_lower ho4 (below_size (pB HB.out))); have n3_ := Aside0.mk (below_step (pB HB.out) hb); clear HO0; clear HO1; clear HB; have HO0 := n0_; have HO1 := n1_; have HO426 := n2_; have HB := n3_; clear n0_ n1_ n2_ n3_; clear hb ho4; obtain ⟨Ao5, co5, eo5⟩ := Kd.N_slice HO426.out; subst eo5))
 go_loopg [19] k (fun kq v19 w' => ∃ (x19_1 : Int), v19 = .int .i64 x19_1 ∧ Aside0 (spread_Two.l0 kq l0 l1 y424 (y424.length : Int) x19_1 = some (r1, r2)) ∧ Aside0 (kq ≤ k) ∧ Aside0 (Kd.V (Kd.int .i64) 3 w' w.heap.size (fun k_ => ((P0_ k_ ∨ P1_ k_) ∨ w.heap.size ≤ k_) ∧ some k_ ≠ ((.slice Ao5 y424.length co5) : Value).ownBlock) (.slice A0 l0.length c0) l0) ∧ Aside0 (Kd.V (Kd.int .i64) 3 w' w.heap.size (fun k_ => ((P0_ k_ ∨ P1_ k_) ∨ w.heap.size ≤ k_) ∧ some k_ ≠ ((.slice Ao5 y424.length co5) : Value).ownBlock) (.slice A1 l1.length c1) l1) ∧ Aside0 (Kd.N (Kd.slice 3 (Kd.int .i64)) 22 w' w.heap.size (fun k_ => ((P0_ k_ ∨ P1_ k_) ∨ w.heap.size ≤ k_)) (.slice Ao5 y424.length co5) y424) ∧ Aside0 (Below w.heap.size w w'))
 case atStart => exact ⟨(0), (pF), H', ⟨Nat.le_refl _⟩, ⟨pV HO0.out⟩, ⟨pV HO1.out⟩, ⟨by (with_reducible repeat (first | apply Kd.N_alloc | apply Kd.N_drewN | apply Kd.N_drew)); exact HO426.out⟩, ⟨pB HB.out⟩⟩
 case round =>
  clear H'
  try clear c1
  try clear p2
  try clear c3
  obtain ⟨x19_1, rfl, HA, HK1, HO_0, HO_1, HO_17, HB⟩ := hrel
  cases gk with
  | zero => exact absurd HA.out (by simp [spread_Two.l0])
  | succ k1 =>
   have H := HA.out
   clear HA
   simp only [spread_Two.l0] at H
   by_cases c6 : x19_1 < (y424.length : Int)
   ·rw [if_pos c6] at H
    have c6b0 : decide (x19_1 < (y424.length : Int)) = true := decide_eq_true c6
    clear c6
    by_cases c7 : 0 ≤ x19_1
    ·rw [if_pos c7] at H
     have c7b0 : decide (0 ≤ x19_1) = true := decide_eq_true c7
     clear c7
     by_cases c8 : x19_1 < (y424.length : Int)
     ·rw [if_pos c8] at H
      have c8b0 : decide (x19_1 < (y424.length : Int)) = true := decide_eq_true c8
      clear c8
      replace H := Option.bind_eq_some_iff.mp H
      obtain ⟨t428, A90, H⟩ := H
      replace H : (if t428 = 0 then (spread_Two.l0 k1 l0 l1 y424 (y424.length : Int) (wrap64 (x19_1 + 1))) else (some (([] : List Int), t428))) = some (r1, r2) := H
      have A9 := Aside0.mk A90
      clear A90
      by_cases c10 : t428 = 0
      ·rw [if_pos c10] at H
       have c10b0 : (t428 == 0) = true := beq_iff_eq.mpr c10
       have c10b1 : (t428 != 0) = false := bne_eq_false_iff_eq.mpr c10
       clear c10
       have H' := Aside0.mk H
       clear H
       have p427 : 0 ≤ (x19_1 : Int) := of_decide_eq_true pD
       have q427 : x19_1 < (y424.length : Int) := of_decide_eq_true pD
       obtain ⟨ad427, A427_0, c427_0, e427, hx427_0, hl427_0, hi427_0⟩ := at_L1 (Kd.N_reads' HO_17.out).2.2 x19_1 p427 q427
       cases e427
       obtain ⟨ce427, hce427, hMe427, hcc427⟩ := Kd.N_get HO_17.out [] x19_1 p427 (by first | exact q427 | exact of_decide_eq_true pD | (have e_ := (Kd.N_reads' HO_17.out).1; omega))
       obtain ⟨ua427_0, uc427_0, rfl, ul427_0, ge427_0⟩ := Kd.FK_slice_open hMe427
       have hv427_0 := hcc427 0 _ rfl
       rw [Nat.add_zero, show ((Kd.slice 3 (Kd.int .i64))).sz = 1 from rfl, Nat.mul_one] at hv427_0
       replace hv427_0 := Option.some.inj (hv427_0.symm.trans hx427_0)
       injection hv427_0 with hva_ hvn_ hvc_
       rw [hva_] at ge427_0
       rw [hvc_] at ul427_0
       have HL427_0 := Aside0.mk (show Kd.V (Kd.int .i64) 3 _ w.heap.size _ _ (rd_L1 y424 x19_1) from Kd.V_mk ul427_0 ge427_0)
       clear hva_ hvn_ hvc_ ge427_0 ul427_0
       clear hcc427 hce427
       have HR427_0 := Aside0.mk hi427_0
       have HC427_0 := Aside0.mk hl427_0
       clear hi427_0 hl427_0
       replace p427 := eq_true p427
       replace q427 := eq_true q427
       go_wp2_with (first | ((with_reducible refine gate_callee (f := 26) rfl ?_); refine goesL_ (some 24) rfl rfl Try.func26 (by kernel_rfl) rfl #[.slice A427_0 (rd_L1 y424 x19_1).length c427_0] rfl pA ?_; (with_reducible refine (shape_Check.calls _ _ (rd_L1 y424 x19_1) t428 _ ?side1 ?side2 A9.out).mono ?_); (case side1 => repeat (first | exact (by repeat (first | (with_reducible exact HR427_0.out) | (with_reducible refine Kd.C_alloc ?_ _) | (with_reducible refine Kd.C_drewN ?_ _) | (with_reducible refine Kd.C_drew ?_) | exact HR427_0.out)) | (with_reducible refine Kd.C_alloc ?_ _) | (with_reducible refine Kd.C_drewN ?_ _) | (with_reducible refine Kd.C_drew ?_))); (case side2 => exact HC427_0.out); rintro e w' ⟨rfl, ⟨nd, rfl⟩⟩; refine ⟨_, rfl, ?_⟩))
       go_roundg k1
       case measure => have := HK1.out; omega
       case rel => exact ⟨(wrap64 (x19_1 + 1)), (pF), H', ⟨by have := HK1.out; omega⟩, ⟨pV HO_0.out⟩, ⟨pV HO_1.out⟩, ⟨by (with_reducible repeat (first | apply Kd.N_alloc | apply Kd.N_drewN | apply Kd.N_drew)); exact HO_17.out⟩, ⟨pB HB.out⟩⟩
      ·rw [if_neg c10] at H
       have c10b0 : (t428 == 0) = false := beq_eq_false_iff_ne.mpr c10
       have c10b1 : (t428 != 0) = true := bne_iff_ne.mpr c10
       simp only [Option.some.injEq, Prod.mk.injEq] at H
       obtain ⟨rfl, rfl⟩ := H
       have p427 : 0 ≤ (x19_1 : Int) := of_decide_eq_true pD
       have q427 : x19_1 < (y424.length : Int) := of_decide_eq_true pD
       obtain ⟨ad427, A427_0, c427_0, e427, hx427_0, hl427_0, hi427_0⟩ := at_L1 (Kd.N_reads' HO_17.out).2.2 x19_1 p427 q427
       cases e427
       obtain ⟨ce427, hce427, hMe427, hcc427⟩ := Kd.N_get HO_17.out [] x19_1 p427 (by first | exact q427 | exact of_decide_eq_true pD | (have e_ := (Kd.N_reads' HO_17.out).1; omega))
       obtain ⟨ua427_0, uc427_0, rfl, ul427_0, ge427_0⟩ := Kd.FK_slice_open hMe427
       have hv427_0 := hcc427 0 _ rfl
       rw [Nat.add_zero, show ((Kd.slice 3 (Kd.int .i64))).sz = 1 from rfl, Nat.mul_one] at hv427_0
       replace hv427_0 := Option.some.inj (hv427_0.symm.trans hx427_0)
       injection hv427_0 with hva_ hvn_ hvc_
       rw [hva_] at ge427_0
       rw [hvc_] at ul427_0
       have HL427_0 := Aside0.mk (show Kd.V (Kd.int .i64) 3 _ w.heap.size _ _ (rd_L1 y424 x19_1) from Kd.V_mk ul427_0 ge427_0)
       clear hva_ hvn_ hvc_ ge427_0 ul427_0
       clear hcc427 hce427
       have HR427_0 := Aside0.mk hi427_0
       have HC427_0 := Aside0.mk hl427_0
       clear hi427_0 hl427_0
       replace p427 := eq_true p427
       replace q427 := eq_true q427
       go_wp2_with (first | ((with_reducible refine gate_callee (f := 26) rfl ?_); refine goesL_ (some 24) rfl rfl Try.func26 (by kernel_rfl) rfl #[.slice A427_0 (rd_L1 y424 x19_1).length c427_0] rfl pA ?_; (with_reducible refine (shape_Check.calls _ _ (rd_L1 y424 x19_1) t428 _ ?side1 ?side2 A9.out).mono ?_); (case side1 => repeat (first | exact (by repeat (first | (with_reducible exact HR427_0.out) | (with_reducible refine Kd.C_alloc ?_ _) | (with_reducible refine Kd.C_drewN ?_ _) | (with_reducible refine Kd.C_drew ?_) | exact HR427_0.out)) | (with_reducible refine Kd.C_alloc ?_ _) | (with_reducible refine Kd.C_drewN ?_ _) | (with_reducible refine Kd.C_drew ?_))); (case side2 => exact HC427_0.out); rintro e w' ⟨rfl, ⟨nd, rfl⟩⟩; refine ⟨_, rfl, ?_⟩))
       go_ret2
       exact ⟨_, pE, by first | exact Kd.R_nil _ _ _ _ _ | exact Kd.N_nil _ _ _ _ _ | exact Kd.V_nil _ _ _ _ _ | exact Kd.Q_nil _ _ _ _ _ | exact Kd.S_nil _ _ _ _ _, pB HB.out⟩
     ·rw [if_neg c8] at H
      exact absurd H (by simp)
    ·rw [if_neg c7] at H
     exact absurd H (by simp)
   ·rw [if_neg c6] at H
    have c6b0 : decide (x19_1 < (y424.length : Int)) = false := decide_eq_false c6
    clear c6
    obtain ⟨ji11, hji11⟩ : ∃ j_ : Int, (mx (l0.length : Int) (l1.length : Int)) = j_ := ⟨_, rfl⟩
    replace H : (if 0 ≤ (ji11) then (if (ji11 : Int).toNat ≤ 35184372088832 then (spread_Two.l1 k1 l0 l1 ji11 (List.replicate (ji11 : Int).toNat 0) 1) else (none)) else (none)) = some (r1, r2) := by first | (rw [hji11] at H; exact H) | (simp only [hji11] at H ⊢; exact H)
    have hji11_ : (if (l0.length : Int) < (l1.length : Int) then (l1.length : Int) else (l0.length : Int)) = ji11 := hji11
    have hji11_n : (if l0.length < l1.length then (l1.length : Int) else (l0.length : Int)) = ji11 := by simpa only [Int.ofNat_lt] using hji11_
    by_cases c12 : 0 ≤ (ji11)
    ·rw [if_pos c12] at H
     have c12b0 := eq_true c12
     have c12b1 : decide (0 ≤ (ji11)) = true := decide_eq_true c12
     clear c12
     by_cases c13 : (ji11 : Int).toNat ≤ 35184372088832
     ·rw [if_pos c13] at H
      have c13b0 := eq_true c13
      have c13b1 : decide ((ji11 : Int).toNat ≤ 35184372088832) = true := decide_eq_true c13
      clear c13
      obtain ⟨y429, hy429⟩ : ∃ y_ : List Int, y_ = (List.replicate (ji11 : Int).toNat 0) := ⟨_, rfl⟩
      replace H : (spread_Two.l1 k1 l0 l1 ji11 y429 1) = some (r1, r2) := by first | (rw [hy429]; with_reducible exact H) | (have H2_ := (Option.bind_some _ _).symm.trans H; rw [hy429]; with_reducible exact H2_) | (have H2_ := (Option.bind_some _ _).symm.trans H; with_reducible exact H2_) | with_reducible exact H | (rw [hy429]; exact H) | exact H
      have Ny429 := Aside0.mk hy429
      clear hy429
      have H' := Aside0.mk H
      clear H
      go_wp2_with (first | ((with_reducible refine gate_dst (N := 35) rfl ?_); refine Kd.R_make (Kd.int .i64) _ 3 rfl (N := 35) rfl 22 _ _ rfl ji11 rfl rfl Try.underlying22 (.int .i64 0) 8 info3 rfl (by decide) (by omega) 0 (ok := fun _ => True) (okp := fun _ => True) rfl (fun _ hk => hk) trivial (of_decide_eq_true pD) (Nat.le_trans (Nat.mul_le_mul_right _ (of_decide_eq_true pD : ji11.toNat ≤ 35184372088832)) (by omega)) (Below.refl _ _) (Nat.le_refl _) ?_; intro v430 w14 ho15 hb hg_ hnew_; clear hg_ hnew_; (first | rw [← Ny429.out] at ho15 | (simp only [Int.reduceToNat] at ho15; rw [← Ny429.out] at ho15)); have n0_ := Aside0.mk (Kd.V_elder' (pV HO_0.out) (Kd.R_base ho15) hb); have n1_ := Aside0.mk (Kd.V_elder' (pV HO_1.out) (Kd.R_base ho15) hb); have n2_ := Aside0.mk (Kd.N_elder' (by (with_reducible repeat (first | apply Kd.N_alloc | apply Kd.N_drewN | apply Kd.N_drew)); exact HO_17.out) (Kd.R_base ho15) hb); have n3_ := Aside0.mk (Kd.R_lower (Kd.R_newM (M := fun k_ => (w.heap.size ≤ k_)) ho15 (below_size (pB HB.out)) (fun k_ h_ => h_)) (below_size (pB HB.out))); have n4_ := Aside0.mk (below_step (pB HB.out) hb); clear HO_0; clear HO_1; clear HO_17; clear HB; have HO_0 := n0_; have HO_1 := n1_; have HO_17 := n2_; have HO431 := n3_; have HB := n4_; clear n0_ n1_ n2_ n3_ n4_; clear hb ho15))
      go_loopg [11] k1 (fun kq v11 w' => ∃ (x10_2 : List Int) (x11_2 : Int), v11 = .int .i64 x11_2 ∧ Aside0 (spread_Two.l1 kq l0 l1 ji11 x10_2 x11_2 = some (r1, r2)) ∧ Aside0 (kq ≤ k1) ∧ Aside0 (Kd.V (Kd.int .i64) 3 w' w.heap.size (fun k_ => ((P0_ k_ ∨ P1_ k_) ∨ w.heap.size ≤ k_) ∧ some k_ ≠ (v430 : Value).ownBlock) (.slice A0 l0.length c0) l0) ∧ Aside0 (Kd.V (Kd.int .i64) 3 w' w.heap.size (fun k_ => ((P0_ k_ ∨ P1_ k_) ∨ w.heap.size ≤ k_) ∧ some k_ ≠ (v430 : Value).ownBlock) (.slice A1 l1.length c1) l1) ∧ Aside0 (Kd.R (Kd.int .i64) 3 w' w.heap.size (fun k_ => (w.heap.size ≤ k_)) v430 x10_2) ∧ Aside0 (Below w.heap.size w w'))
      case atStart => exact ⟨(y429), (1), (pF), H', ⟨Nat.le_refl _⟩, ⟨by (with_reducible repeat (first | apply Kd.V_alloc | apply Kd.V_drewN | apply Kd.V_drew)); exact Kd.V_mono HO_0.out (fun _ hk => ⟨hk.1.1, hk.2⟩)⟩, ⟨by (with_reducible repeat (first | apply Kd.V_alloc | apply Kd.V_drewN | apply Kd.V_drew)); exact Kd.V_mono HO_1.out (fun _ hk => ⟨hk.1.1, hk.2⟩)⟩, ⟨by (with_reducible repeat (first | apply Kd.R_alloc | apply Kd.R_drewN | apply Kd.R_drew)); exact Kd.R_mono HO431.out (fun _ hk => hk.1)⟩, ⟨pB HB.out⟩⟩
      case round =>
       clear H'
       try clear c1
       try clear c2
       try clear p2
       try clear c3
       try clear c4
       try clear p4
       try clear q4
       try clear hx4
       try clear c6
       try clear c6b0
       try clear p6
       try clear c7
       try clear c7b0
       try clear c8
       try clear c8b0
       try clear c10
       try clear c10b0
       try clear c10b1
       try clear c12
       try clear c12b0
       try clear c12b1
       try clear c13
       try clear c13b0
       try clear c13b1
       try clear hx427_0
       try clear p2
       try clear p427
       try clear q427
       obtain ⟨x10_2, x11_2, rfl, HA, HK2, HO_0, HO_1, HO_10, HB⟩ := hrel
       cases gk with
       | zero => exact absurd HA.out (by simp [spread_Two.l1])
       | succ k2 =>
        have H := HA.out
        clear HA
        simp only [spread_Two.l1] at H
        by_cases c16 : x11_2 ≤ ji11
        ·rw [if_pos c16] at H
         have c16b0 : decide (x11_2 ≤ ji11) = true := decide_eq_true c16
         clear c16
         replace H := Option.bind_eq_some_iff.mp H
         obtain ⟨t433, A170, H⟩ := H
         replace H : ((spread_size.f l1 x11_2).bind fun t434 => (if t433 = t434 then (if 0 ≤ (wrap64 (ji11 - x11_2)) then (if (wrap64 (ji11 - x11_2)) < (x10_2.length : Int) then (spread_Two.l1 k2 l0 l1 ji11 (x10_2.set ((wrap64 (ji11 - x11_2)) : Int).toNat (mx t433 t434)) (wrap64 (x11_2 + 1))) else (none)) else (none)) else (if t433 = 1 then (if 0 ≤ (wrap64 (ji11 - x11_2)) then (if (wrap64 (ji11 - x11_2)) < (x10_2.length : Int) then (spread_Two.l1 k2 l0 l1 ji11 (x10_2.set ((wrap64 (ji11 - x11_2)) : Int).toNat (mx t433 t434)) (wrap64 (x11_2 + 1))) else (none)) else (none)) else (if t434 = 1 then (if 0 ≤ (wrap64 (ji11 - x11_2)) then (if (wrap64 (ji11 - x11_2)) < (x10_2.length : Int) then (spread_Two.l1 k2 l0 l1 ji11 (x10_2.set ((wrap64 (ji11 - x11_2)) : Int).toNat (mx t433 t434)) (wrap64 (x11_2 + 1))) else (none)) else (none)) else (some (([] : List Int), 8)))))) = some (r1, r2) := H
         have A17 := Aside0.mk A170
         clear A170
         replace H := Option.bind_eq_some_iff.mp H
         obtain ⟨t434, A180, H⟩ := H
         replace H : (if t433 = t434 then (if 0 ≤ (wrap64 (ji11 - x11_2)) then (if (wrap64 (ji11 - x11_2)) < (x10_2.length : Int) then (spread_Two.l1 k2 l0 l1 ji11 (x10_2.set ((wrap64 (ji11 - x11_2)) : Int).toNat (mx t433 t434)) (wrap64 (x11_2 + 1))) else (none)) else (none)) else (if t433 = 1 then (if 0 ≤ (wrap64 (ji11 - x11_2)) then (if (wrap64 (ji11 - x11_2)) < (x10_2.length : Int) then (spread_Two.l1 k2 l0 l1 ji11 (x10_2.set ((wrap64 (ji11 - x11_2)) : Int).toNat (mx t433 t434)) (wrap64 (x11_2 + 1))) else (none)) else (none)) else (if t434 = 1 then (if 0 ≤ (wrap64 (ji11 - x11_2)) then (if (wrap64 (ji11 - x11_2)) < (x10_2.length : Int) then (spread_Two.l1 k2 l0 l1 ji11 (x10_2.set ((wrap64 (ji11 - x11_2)) : Int).toNat (mx t433 t434)) (wrap64 (x11_2 + 1))) else (none)) else (none)) else (some (([] : List Int), 8))))) = some (r1, r2) := H
         have A18 := Aside0.mk A180
         clear A180
         by_cases c19 : t433 = t434
         ·rw [if_pos c19] at H
          have c19b0 : (t433 == t434) = true := beq_iff_eq.mpr c19
          have c19b1 : (t433 != t434) = false := bne_eq_false_iff_eq.mpr c19
          clear c19
          obtain ⟨ji20, hji20⟩ : ∃ j_ : Int, (mx t433 t434) = j_ := ⟨_, rfl⟩
          replace H : (if 0 ≤ (wrap64 (ji11 - x11_2)) then (if (wrap64 (ji11 - x11_2)) < (x10_2.length : Int) then (spread_Two.l1 k2 l0 l1 ji11 (x10_2.set ((wrap64 (ji11 - x11_2)) : Int).toNat (ji20)) (wrap64 (x11_2 + 1))) else (none)) else (none)) = some (r1, r2) := by first | (rw [hji20] at H; exact H) | (simp only [hji20] at H ⊢; exact H)
          (try rw [hji20] at A17)
          (try rw [hji20] at A18)
          have hji20_ : (if t433 < t434 then t434 else t433) = ji20 := hji20
          obtain ⟨ji21, hji21⟩ : ∃ j_ : Int, (wrap64 (ji11 - x11_2)) = j_ := ⟨_, rfl⟩
          replace H : (if 0 ≤ (ji21) then (if (ji21) < (x10_2.length : Int) then (spread_Two.l1 k2 l0 l1 ji11 (x10_2.set ((ji21) : Int).toNat (ji20)) (wrap64 (x11_2 + 1))) else (none)) else (none)) = some (r1, r2) := by first | (rw [hji21] at H; exact H) | (simp only [hji21] at H ⊢; exact H)
          (try rw [hji21] at A17)
          (try rw [hji21] at A18)
          have hji21w : (IntKind.i64.wrap (ji11 - x11_2)) = ji21 := (i64_w _).trans hji21
          by_cases c22 : 0 ≤ (ji21)
          ·rw [if_pos c22] at H
           have c22b0 : decide (0 ≤ (ji21)) = true := decide_eq_true c22
           clear c22
           by_cases c23 : (ji21) < (x10_2.length : Int)
           ·rw [if_pos c23] at H
            have c23b0 : decide ((ji21) < (x10_2.length : Int)) = true := decide_eq_true c23
            clear c23
            obtain ⟨y435, hy435⟩ : ∃ y_ : List Int, y_ = (x10_2.set ((ji21) : Int).toNat (ji20)) := ⟨_, rfl⟩
            replace H : (spread_Two.l1 k2 l0 l1 ji11 y435 (wrap64 (x11_2 + 1))) = some (r1, r2) := by first | (rw [hy435]; with_reducible exact H) | (have H2_ := (Option.bind_some _ _).symm.trans H; rw [hy435]; with_reducible exact H2_) | (have H2_ := (Option.bind_some _ _).symm.trans H; with_reducible exact H2_) | with_reducible exact H | (rw [hy435]; exact H) | exact H
            have Ny435 := Aside0.mk hy435
            clear hy435
            have H' := Aside0.mk H
            clear H
            go_wp2_with (first | ((with_reducible refine gate_callee (f := 53) rfl ?_); refine goesL_ (some 43) rfl rfl Try.func53 (by kernel_rfl) rfl #[.slice A0 l0.length c0, .int .i64 x11_2] rfl pA ?_; (with_reducible refine (spread_size.calls _ _ l0 x11_2 t433 _ ?side1 ?side2 A17.out).mono ?_); (case side1 => exact pC (Kd.V_reads' HO_0.out).2.2); (case side2 => exact (Kd.V_reads' HO_0.out).2.1); rintro e w' ⟨rfl, ⟨nd, rfl⟩⟩; refine ⟨_, rfl, ?_⟩; (try (rw [drewN_self wr]; generalize hq_ : World.drewN wr _ = wr; have n0_ : Aside0 (Kd.V (Kd.int .i64) 3 wr w.heap.size (fun k_ => ((P0_ k_ ∨ P1_ k_) ∨ w.heap.size ≤ k_) ∧ some k_ ≠ (v430 : Value).ownBlock) (.slice A0 l0.length c0) l0) := ⟨by rw [← hq_]; exact (pV HO_0.out)⟩; have n1_ : Aside0 (Kd.V (Kd.int .i64) 3 wr w.heap.size (fun k_ => ((P0_ k_ ∨ P1_ k_) ∨ w.heap.size ≤ k_) ∧ some k_ ≠ (v430 : Value).ownBlock) (.slice A1 l1.length c1) l1) := ⟨by rw [← hq_]; exact (pV HO_1.out)⟩; have n2_ : Aside0 (Kd.R (Kd.int .i64) 3 wr w.heap.size (fun k_ => (w.heap.size ≤ k_)) v430 x10_2) := ⟨by rw [← hq_]; exact (pR HO_10.out)⟩; have n3_ : Aside0 (Below w.heap.size w wr) := ⟨by rw [← hq_]; exact (pB HB.out)⟩; clear HO_0 HO_1 HO_10 HB hq_; have HO_0 := n0_; have HO_1 := n1_; have HO_10 := n2_; have HB := n3_; clear n0_ n1_ n2_ n3_))) | ((with_reducible refine gate_callee (f := 53) rfl ?_); refine goesL_ (some 46) rfl rfl Try.func53 (by kernel_rfl) rfl #[.slice A1 l1.length c1, .int .i64 x11_2] rfl pA ?_; (with_reducible refine (spread_size.calls _ _ l1 x11_2 t434 _ ?side1 ?side2 A18.out).mono ?_); (case side1 => exact pC (Kd.V_reads' HO_1.out).2.2); (case side2 => exact (Kd.V_reads' HO_1.out).2.1); rintro e w' ⟨rfl, ⟨nd, rfl⟩⟩; refine ⟨_, rfl, ?_⟩; (try (rw [drewN_self wr]; generalize hq_ : World.drewN wr _ = wr; have n0_ : Aside0 (Kd.V (Kd.int .i64) 3 wr w.heap.size (fun k_ => ((P0_ k_ ∨ P1_ k_) ∨ w.heap.size ≤ k_) ∧ some k_ ≠ (v430 : Value).ownBlock) (.slice A0 l0.length c0) l0) := ⟨by rw [← hq_]; exact (pV HO_0.out)⟩; have n1_ : Aside0 (Kd.V (Kd.int .i64) 3 wr w.heap.size (fun k_ => ((P0_ k_ ∨ P1_ k_) ∨ w.heap.size ≤ k_) ∧ some k_ ≠ (v430 : Value).ownBlock) (.slice A1 l1.length c1) l1) := ⟨by rw [← hq_]; exact (pV HO_1.out)⟩; have n2_ : Aside0 (Kd.R (Kd.int .i64) 3 wr w.heap.size (fun k_ => (w.heap.size ≤ k_)) v430 x10_2) := ⟨by rw [← hq_]; exact (pR HO_10.out)⟩; have n3_ : Aside0 (Below w.heap.size w wr) := ⟨by rw [← hq_]; exact (pB HB.out)⟩; clear HO_0 HO_1 HO_10 HB hq_; have HO_0 := n0_; have HO_1 := n1_; have HO_10 := n2_; have HB := n3_; clear n0_ n1_ n2_ n3_)); have p24 : 0 ≤ ((ji21) : Int) := of_decide_eq_true pD; have q24 : ((ji21) : Int) < ((x10_2.length : Int) : Int) := of_decide_eq_true pD; obtain ⟨go24, co24, eo24, gb24, gl24, cl24, HG24⟩ := Kd.R_form HO_10.out (by omega); (first | cases eo24 | (injection eo24 with ea_ en_ ec_; (first | subst ea_ | (injection ea_ with ea_; subst ea_)); subst ec_; clear en_)); have GB24 := Aside0.mk gb24; have GG24 := Aside0.mk HG24; clear gb24 gl24 HG24; obtain ⟨hx24_0, hf24_0⟩ := Kd.R_celln 0 HO_10.out ((ji21) : Int) p24 q24; replace p24 := eq_true p24; replace q24 := eq_true q24; obtain ⟨hy25_, hz25_⟩ := Kd.R_celln 0 HO_10.out ((ji21) : Int) (of_decide_eq_true pD) (of_decide_eq_true pD); have HP25 := Kd.R_putg HO_10.out ((ji21) : Int) ji20) | ((with_reducible refine gate_store (t := 3) (p := 65) rfl ?_); refine store_event (t := 3) (p := 65) (v := ?vo_w26) (w1 := (wr.setCell ⟨go24, ((ji21) : Int).toNat, none⟩ (.int .i64 ji20))) ?hg ?ho ?hn ?hr ?_; (case ho => rfl); (case hg => rfl); (case hn => rfl); (case hr => first | (go_simp; done) | (go_simp; rfl)); intro w26 hw; have hg : wr.grownBy w26 (some go24) := (by rw [hw]; exact HP25.2); have hp_ : Kd.R (Kd.int .i64) 3 w26 w.heap.size (fun k_ => (w.heap.size ≤ k_)) (.slice (some ⟨go24, 0, none⟩) x10_2.length co24) y435 := (by rw [hw, Ny435.out]; exact HP25.1); clear HP25; have n0_ := Aside0.mk (Kd.V_afterv (v := (.slice (some ⟨go24, 0, none⟩) x10_2.length co24)) (v1 := (.slice (some ⟨go24, 0, none⟩) x10_2.length co24)) (ok := (fun k_ => ((P0_ k_ ∨ P1_ k_) ∨ w.heap.size ≤ k_))) (pV HO_0.out) hg (.inl rfl)); have n1_ := Aside0.mk (Kd.V_afterv (v := (.slice (some ⟨go24, 0, none⟩) x10_2.length co24)) (v1 := (.slice (some ⟨go24, 0, none⟩) x10_2.length co24)) (ok := (fun k_ => ((P0_ k_ ∨ P1_ k_) ∨ w.heap.size ≤ k_))) (pV HO_1.out) hg (.inl rfl)); have n2_ := Aside0.mk (hp_); have n3_ := Aside0.mk ((by rw [hw]; exact below_set (HB.out) GB24.out : Below w.heap.size w w26)); clear HO_0; clear HO_1; clear HO_10; clear HB; have HO_0 := n0_; have HO_1 := n1_; have HO_10 := n2_; have HB := n3_; clear n0_ n1_ n2_ n3_; clear hg hw hp_))
            go_roundg k2
            case measure => have := HK1.out; have := HK2.out; omega
            case rel => exact ⟨(y435), (wrap64 (x11_2 + 1)), (pF), H', ⟨by have := HK1.out; have := HK2.out; omega⟩, ⟨pV HO_0.out⟩, ⟨pV HO_1.out⟩, ⟨pR HO_10.out⟩, ⟨pB HB.out⟩⟩
           ·rw [if_neg c23] at H
            exact absurd H (by simp)
          ·rw [if_neg c22] at H
           exact absurd H (by simp)
         ·rw [if_neg c19] at H
          have c19b0 : (t433 == t434) = false := beq_eq_false_iff_ne.mpr c19
          have c19b1 : (t433 != t434) = true := bne_iff_ne.mpr c19
          by_cases c27 : t433 = 1
          ·rw [if_pos c27] at H
           have c27b0 : (t433 == 1) = true := beq_iff_eq.mpr c27
           have c27b1 : (t433 != 1) = false := bne_eq_false_iff_eq.mpr c27
           clear c27
           obtain ⟨ji28, hji28⟩ : ∃ j_ : Int, (mx t433 t434) = j_ := ⟨_, rfl⟩
           replace H : (if 0 ≤ (wrap64 (ji11 - x11_2)) then (if (wrap64 (ji11 - x11_2)) < (x10_2.length : Int) then (spread_Two.l1 k2 l0 l1 ji11 (x10_2.set ((wrap64 (ji11 - x11_2)) : Int).toNat (ji28)) (wrap64 (x11_2 + 1))) else (none)) else (none)) = some (r1, r2) := by first | (rw [hji28] at H; exact H) | (simp only [hji28] at H ⊢; exact H)
           (try rw [hji28] at A17)
           (try rw [hji28] at A18)
           have hji28_ : (if t433 < t434 then t434 else t433) = ji28 := hji28
           obtain ⟨ji29, hji29⟩ : ∃ j_ : Int, (wrap64 (ji11 - x11_2)) = j_ := ⟨_, rfl⟩
           replace H : (if 0 ≤ (ji29) then (if (ji29) < (x10_2.length : Int) then (spread_Two.l1 k2 l0 l1 ji11 (x10_2.set ((ji29) : Int).toNat (ji28)) (wrap64 (x11_2 + 1))) else (none)) else (none)) = some (r1, r2) := by first | (rw [hji29] at H; exact H) | (simp only [hji29] at H ⊢; exact H)
           (try rw [hji29] at A17)
           (try rw [hji29] at A18)
           have hji29w : (IntKind.i64.wrap (ji11 - x11_2)) = ji29 := (i64_w _).trans hji29
           by_cases c30 : 0 ≤ (ji29)
           ·rw [if_pos c30] at H
            have c30b0 : decide (0 ≤ (ji29)) = true := decide_eq_true c30
            clear c30
            by_cases c31 : (ji29) < (x10_2.length : Int)
            ·rw [if_pos c31] at H
             have c31b0 : decide ((ji29) < (x10_2.length : Int)) = true := decide_eq_true c31
             clear c31
             obtain ⟨y436, hy436⟩ : ∃ y_ : List Int, y_ = (x10_2.set ((ji29) : Int).toNat (ji28)) := ⟨_, rfl⟩
             replace H : (spread_Two.l1 k2 l0 l1 ji11 y436 (wrap64 (x11_2 + 1))) = some (r1, r2) := by first | (rw [hy436]; with_reducible exact H) | (have H2_ := (Option.bind_some _ _).symm.trans H; rw [hy436]; with_reducible exact H2_) | (have H2_ := (Option.bind_some _ _).symm.trans H; with_reducible exact H2_) | with_reducible exact H | (rw [hy436]; exact H) | exact H
             have Ny436 := Aside0.mk hy436
             clear hy436
             have H' := Aside0.mk H
             clear H
             go_wp2_with (first | ((with_reducible refine gate_callee (f := 53) rfl ?_); refine goesL_ (some 43) rfl rfl Try.func53 (by kernel_rfl) rfl #[.slice A0 l0.length c0, .int .i64 x11_2] rfl pA ?_; (with_reducible refine (spread_size.calls _ _ l0 x11_2 t433 _ ?side1 ?side2 A17.out).mono ?_); (case side1 => exact pC (Kd.V_reads' HO_0.out).2.2); (case side2 => exact (Kd.V_reads' HO_0.out).2.1); rintro e w' ⟨rfl, ⟨nd, rfl⟩⟩; refine ⟨_, rfl, ?_⟩; (try (rw [drewN_self wr]; generalize hq_ : World.drewN wr _ = wr; have n0_ : Aside0 (Kd.V (Kd.int .i64) 3 wr w.heap.size (fun k_ => ((P0_ k_ ∨ P1_ k_) ∨ w.heap.size ≤ k_) ∧ some k_ ≠ (v430 : Value).ownBlock) (.slice A0 l0.length c0) l0) := ⟨by rw [← hq_]; exact (pV HO_0.out)⟩; have n1_ : Aside0 (Kd.V (Kd.int .i64) 3 wr w.heap.size (fun k_ => ((P0_ k_ ∨ P1_ k_) ∨ w.heap.size ≤ k_) ∧ some k_ ≠ (v430 : Value).ownBlock) (.slice A1 l1.length c1) l1) := ⟨by rw [← hq_]; exact (pV HO_1.out)⟩; have n2_ : Aside0 (Kd.R (Kd.int .i64) 3 wr w.heap.size (fun k_ => (w.heap.size ≤ k_)) v430 x10_2) := ⟨by rw [← hq_]; exact (pR HO_10.out)⟩; have n3_ : Aside0 (Below w.heap.size w wr) := ⟨by rw [← hq_]; exact (pB HB.out)⟩; clear HO_0 HO_1 HO_10 HB hq_; have HO_0 := n0_; have HO_1 := n1_; have HO_10 := n2_; have HB := n3_; clear n0_ n1_ n2_ n3_))) | ((with_reducible refine gate_callee (f := 53) rfl ?_); refine goesL_ (some 46) rfl rfl Try.func53 (by kernel_rfl) rfl #[.slice A1 l1.length c1, .int .i64 x11_2] rfl pA ?_; (with_reducible refine (spread_size.calls _ _ l1 x11_2 t434 _ ?side1 ?side2 A18.out).mono ?_); (case side1 => exact pC (Kd.V_reads' HO_1.out).2.2); (case side2 => exact (Kd.V_reads' HO_1.out).2.1); rintro e w' ⟨rfl, ⟨nd, rfl⟩⟩; refine ⟨_, rfl, ?_⟩; (try (rw [drewN_self wr]; generalize hq_ : World.drewN wr _ = wr; have n0_ : Aside0 (Kd.V (Kd.int .i64) 3 wr w.heap.size (fun k_ => ((P0_ k_ ∨ P1_ k_) ∨ w.heap.size ≤ k_) ∧ some k_ ≠ (v430 : Value).ownBlock) (.slice A0 l0.length c0) l0) := ⟨by rw [← hq_]; exact (pV HO_0.out)⟩; have n1_ : Aside0 (Kd.V (Kd.int .i64) 3 wr w.heap.size (fun k_ => ((P0_ k_ ∨ P1_ k_) ∨ w.heap.size ≤ k_) ∧ some k_ ≠ (v430 : Value).ownBlock) (.slice A1 l1.length c1) l1) := ⟨by rw [← hq_]; exact (pV HO_1.out)⟩; have n2_ : Aside0 (Kd.R (Kd.int .i64) 3 wr w.heap.size (fun k_ => (w.heap.size ≤ k_)) v430 x10_2) := ⟨by rw [← hq_]; exact (pR HO_10.out)⟩; have n3_ : Aside0 (Below w.heap.size w wr) := ⟨by rw [← hq_]; exact (pB HB.out)⟩; clear HO_0 HO_1 HO_10 HB hq_; have HO_0 := n0_; have HO_1 := n1_; have HO_10 := n2_; have HB := n3_; clear n0_ n1_ n2_ n3_)); have p32 : 0 ≤ ((ji29) : Int) := of_decide_eq_true pD; have q32 : ((ji29) : Int) < ((x10_2.length : Int) : Int) := of_decide_eq_true pD; obtain ⟨go32, co32, eo32, gb32, gl32, cl32, HG32⟩ := Kd.R_form HO_10.out (by omega); (first | cases eo32 | (injection eo32 with ea_ en_ ec_; (first | subst ea_ | (injection ea_ with ea_; subst ea_)); subst ec_; clear en_)); have GB32 := Aside0.mk gb32; have GG32 := Aside0.mk HG32; clear gb32 gl32 HG32; obtain ⟨hx32_0, hf32_0⟩ := Kd.R_celln 0 HO_10.out ((ji29) : Int) p32 q32; replace p32 := eq_true p32; replace q32 := eq_true q32; obtain ⟨hy33_, hz33_⟩ := Kd.R_celln 0 HO_10.out ((ji29) : Int) (of_decide_eq_true pD) (of_decide_eq_true pD); have HP33 := Kd.R_putg HO_10.out ((ji29) : Int) ji28) | ((with_reducible refine gate_store (t := 3) (p := 65) rfl ?_); refine store_event (t := 3) (p := 65) (v := ?vo_w34) (w1 := (wr.setCell ⟨go32, ((ji29) : Int).toNat, none⟩ (.int .i64 ji28))) ?hg ?ho ?hn ?hr ?_; (case ho => rfl); (case hg => rfl); (case hn => rfl); (case hr => first | (go_simp; done) | (go_simp; rfl)); intro w34 hw; have hg : wr.grownBy w34 (some go32) := (by rw [hw]; exact HP33.2); have hp_ : Kd.R (Kd.int .i64) 3 w34 w.heap.size (fun k_ => (w.heap.size ≤ k_)) (.slice (some ⟨go32, 0, none⟩) x10_2.length co32) y436 := (by rw [hw, Ny436.out]; exact HP33.1); clear HP33; have n0_ := Aside0.mk (Kd.V_afterv (v := (.slice (some ⟨go32, 0, none⟩) x10_2.length co32)) (v1 := (.slice (some ⟨go32, 0, none⟩) x10_2.length co32)) (ok := (fun k_ => ((P0_ k_ ∨ P1_ k_) ∨ w.heap.size ≤ k_))) (pV HO_0.out) hg (.inl rfl)); have n1_ := Aside0.mk (Kd.V_afterv (v := (.slice (some ⟨go32, 0, none⟩) x10_2.length co32)) (v1 := (.slice (some ⟨go32, 0, none⟩) x10_2.length co32)) (ok := (fun k_ => ((P0_ k_ ∨ P1_ k_) ∨ w.heap.size ≤ k_))) (pV HO_1.out) hg (.inl rfl)); have n2_ := Aside0.mk (hp_); have n3_ := Aside0.mk ((by rw [hw]; exact below_set (HB.out) GB32.out : Below w.heap.size w w34)); clear HO_0; clear HO_1; clear HO_10; clear HB; have HO_0 := n0_; have HO_1 := n1_; have HO_10 := n2_; have HB := n3_; clear n0_ n1_ n2_ n3_; clear hg hw hp_))
             go_roundg k2
             case measure => have := HK1.out; have := HK2.out; omega
             case rel => exact ⟨(y436), (wrap64 (x11_2 + 1)), (pF), H', ⟨by have := HK1.out; have := HK2.out; omega⟩, ⟨pV HO_0.out⟩, ⟨pV HO_1.out⟩, ⟨pR HO_10.out⟩, ⟨pB HB.out⟩⟩
            ·rw [if_neg c31] at H
             exact absurd H (by simp)
           ·rw [if_neg c30] at H
            exact absurd H (by simp)
          ·rw [if_neg c27] at H
           have c27b0 : (t433 == 1) = false := beq_eq_false_iff_ne.mpr c27
           have c27b1 : (t433 != 1) = true := bne_iff_ne.mpr c27
           by_cases c35 : t434 = 1
           ·rw [if_pos c35] at H
            have c35b0 : (t434 == 1) = true := beq_iff_eq.mpr c35
            have c35b1 : (t434 != 1) = false := bne_eq_false_iff_eq.mpr c35
            clear c35
            obtain ⟨ji36, hji36⟩ : ∃ j_ : Int, (mx t433 t434) = j_ := ⟨_, rfl⟩
            replace H : (if 0 ≤ (wrap64 (ji11 - x11_2)) then (if (wrap64 (ji11 - x11_2)) < (x10_2.length : Int) then (spread_Two.l1 k2 l0 l1 ji11 (x10_2.set ((wrap64 (ji11 - x11_2)) : Int).toNat (ji36)) (wrap64 (x11_2 + 1))) else (none)) else (none)) = some (r1, r2) := by first | (rw [hji36] at H; exact H) | (simp only [hji36] at H ⊢; exact H)
            (try rw [hji36] at A17)
            (try rw [hji36] at A18)
            have hji36_ : (if t433 < t434 then t434 else t433) = ji36 := hji36
            obtain ⟨ji37, hji37⟩ : ∃ j_ : Int, (wrap64 (ji11 - x11_2)) = j_ := ⟨_, rfl⟩
            replace H : (if 0 ≤ (ji37) then (if (ji37) < (x10_2.length : Int) then (spread_Two.l1 k2 l0 l1 ji11 (x10_2.set ((ji37) : Int).toNat (ji36)) (wrap64 (x11_2 + 1))) else (none)) else (none)) = some (r1, r2) := by first | (rw [hji37] at H; exact H) | (simp only [hji37] at H ⊢; exact H)
            (try rw [hji37] at A17)
            (try rw [hji37] at A18)
            have hji37w : (IntKind.i64.wrap (ji11 - x11_2)) = ji37 := (i64_w _).trans hji37
            by_cases c38 : 0 ≤ (ji37)
            ·rw [if_pos c38] at H
             have c38b0 : decide (0 ≤ (ji37)) = true := decide_eq_true c38
             clear c38
             by_cases c39 : (ji37) < (x10_2.length : Int)
             ·rw [if_pos c39] at H
              have c39b0 : decide ((ji37) < (x10_2.length : Int)) = true := decide_eq_true c39
              clear c39
              obtain ⟨y437, hy437⟩ : ∃ y_ : List Int, y_ = (x10_2.set ((ji37) : Int).toNat (ji36)) := ⟨_, rfl⟩
              replace H : (spread_Two.l1 k2 l0 l1 ji11 y437 (wrap64 (x11_2 + 1))) = some (r1, r2) := by first | (rw [hy437]; with_reducible exact H) | (have H2_ := (Option.bind_some _ _).symm.trans H; rw [hy437]; with_reducible exact H2_) | (have H2_ := (Option.bind_some _ _).symm.trans H; with_reducible exact H2_) | with_reducible exact H | (rw [hy437]; exact H) | exact H
              have Ny437 := Aside0.mk hy437
              clear hy437
              have H' := Aside0.mk H
              clear H
              go_wp2_with (first | ((with_reducible refine gate_callee (f := 53) rfl ?_); refine goesL_ (some 43) rfl rfl Try.func53 (by kernel_rfl) rfl #[.slice A0 l0.length c0, .int .i64 x11_2] rfl pA ?_; (with_reducible refine (spread_size.calls _ _ l0 x11_2 t433 _ ?side1 ?side2 A17.out).mono ?_); (case side1 => exact pC (Kd.V_reads' HO_0.out).2.2); (case side2 => exact (Kd.V_reads' HO_0.out).2.1); rintro e w' ⟨rfl, ⟨nd, rfl⟩⟩; refine ⟨_, rfl, ?_⟩; (try (rw [drewN_self wr]; generalize hq_ : World.drewN wr _ = wr; have n0_ : Aside0 (Kd.V (Kd.int .i64) 3 wr w.heap.size (fun k_ => ((P0_ k_ ∨ P1_ k_) ∨ w.heap.size ≤ k_) ∧ some k_ ≠ (v430 : Value).ownBlock) (.slice A0 l0.length c0) l0) := ⟨by rw [← hq_]; exact (pV HO_0.out)⟩; have n1_ : Aside0 (Kd.V (Kd.int .i64) 3 wr w.heap.size (fun k_ => ((P0_ k_ ∨ P1_ k_) ∨ w.heap.size ≤ k_) ∧ some k_ ≠ (v430 : Value).ownBlock) (.slice A1 l1.length c1) l1) := ⟨by rw [← hq_]; exact (pV HO_1.out)⟩; have n2_ : Aside0 (Kd.R (Kd.int .i64) 3 wr w.heap.size (fun k_ => (w.heap.size ≤ k_)) v430 x10_2) := ⟨by rw [← hq_]; exact (pR HO_10.out)⟩; have n3_ : Aside0 (Below w.heap.size w wr) := ⟨by rw [← hq_]; exact (pB HB.out)⟩; clear HO_0 HO_1 HO_10 HB hq_; have HO_0 := n0_; have HO_1 := n1_; have HO_10 := n2_; have HB := n3_; clear n0_ n1_ n2_ n3_))) | ((with_reducible refine gate_callee (f := 53) rfl ?_); refine goesL_ (some 46) rfl rfl Try.func53 (by kernel_rfl) rfl #[.slice A1 l1.length c1, .int .i64 x11_2] rfl pA ?_; (with_reducible refine (spread_size.calls _ _ l1 x11_2 t434 _ ?side1 ?side2 A18.out).mono ?_); (case side1 => exact pC (Kd.V_reads' HO_1.out).2.2); (case side2 => exact (Kd.V_reads' HO_1.out).2.1); rintro e w' ⟨rfl, ⟨nd, rfl⟩⟩; refine ⟨_, rfl, ?_⟩; (try (rw [drewN_self wr]; generalize hq_ : World.drewN wr _ = wr; have n0_ : Aside0 (Kd.V (Kd.int .i64) 3 wr w.heap.size (fun k_ => ((P0_ k_ ∨ P1_ k_) ∨ w.heap.size ≤ k_) ∧ some k_ ≠ (v430 : Value).ownBlock) (.slice A0 l0.length c0) l0) := ⟨by rw [← hq_]; exact (pV HO_0.out)⟩; have n1_ : Aside0 (Kd.V (Kd.int .i64) 3 wr w.heap.size (fun k_ => ((P0_ k_ ∨ P1_ k_) ∨ w.heap.size ≤ k_) ∧ some k_ ≠ (v430 : Value).ownBlock) (.slice A1 l1.length c1) l1) := ⟨by rw [← hq_]; exact (pV HO_1.out)⟩; have n2_ : Aside0 (Kd.R (Kd.int .i64) 3 wr w.heap.size (fun k_ => (w.heap.size ≤ k_)) v430 x10_2) := ⟨by rw [← hq_]; exact (pR HO_10.out)⟩; have n3_ : Aside0 (Below w.heap.size w wr) := ⟨by rw [← hq_]; exact (pB HB.out)⟩; clear HO_0 HO_1 HO_10 HB hq_; have HO_0 := n0_; have HO_1 := n1_; have HO_10 := n2_; have HB := n3_; clear n0_ n1_ n2_ n3_)); have p40 : 0 ≤ ((ji37) : Int) := of_decide_eq_true pD; have q40 : ((ji37) : Int) < ((x10_2.length : Int) : Int) := of_decide_eq_true pD; obtain ⟨go40, co40, eo40, gb40, gl40, cl40, HG40⟩ := Kd.R_form HO_10.out (by omega); (first | cases eo40 | (injection eo40 with ea_ en_ ec_; (first | subst ea_ | (injection ea_ with ea_; subst ea_)); subst ec_; clear en_)); have GB40 := Aside0.mk gb40; have GG40 := Aside0.mk HG40; clear gb40 gl40 HG40; obtain ⟨hx40_0, hf40_0⟩ := Kd.R_celln 0 HO_10.out ((ji37) : Int) p40 q40; replace p40 := eq_true p40; replace q40 := eq_true q40; obtain ⟨hy41_, hz41_⟩ := Kd.R_celln 0 HO_10.out ((ji37) : Int) (of_decide_eq_true pD) (of_decide_eq_true pD); have HP41 := Kd.R_putg HO_10.out ((ji37) : Int) ji36) | ((with_reducible refine gate_store (t := 3) (p := 65) rfl ?_); refine store_event (t := 3) (p := 65) (v := ?vo_w42) (w1 := (wr.setCell ⟨go40, ((ji37) : Int).toNat, none⟩ (.int .i64 ji36))) ?hg ?ho ?hn ?hr ?_; (case ho => rfl); (case hg => rfl); (case hn => rfl); (case hr => first | (go_simp; done) | (go_simp; rfl)); intro w42 hw; have hg : wr.grownBy w42 (some go40) := (by rw [hw]; exact HP41.2); have hp_ : Kd.R (Kd.int .i64) 3 w42 w.heap.size (fun k_ => (w.heap.size ≤ k_)) (.slice (some ⟨go40, 0, none⟩) x10_2.length co40) y437 := (by rw [hw, Ny437.out]; exact HP41.1); clear HP41; have n0_ := Aside0.mk (Kd.V_afterv (v := (.slice (some ⟨go40, 0, none⟩) x10_2.length co40)) (v1 := (.slice (some ⟨go40, 0, none⟩) x10_2.length co40)) (ok := (fun k_ => ((P0_ k_ ∨ P1_ k_) ∨ w.heap.size ≤ k_))) (pV HO_0.out) hg (.inl rfl)); have n1_ := Aside0.mk (Kd.V_afterv (v := (.slice (some ⟨go40, 0, none⟩) x10_2.length co40)) (v1 := (.slice (some ⟨go40, 0, none⟩) x10_2.length co40)) (ok := (fun k_ => ((P0_ k_ ∨ P1_ k_) ∨ w.heap.size ≤ k_))) (pV HO_1.out) hg (.inl rfl)); have n2_ := Aside0.mk (hp_); have n3_ := Aside0.mk ((by rw [hw]; exact below_set (HB.out) GB40.out : Below w.heap.size w w42)); clear HO_0; clear HO_1; clear HO_10; clear HB; have HO_0 := n0_; have HO_1 := n1_; have HO_10 := n2_; have HB := n3_; clear n0_ n1_ n2_ n3_; clear hg hw hp_))
              go_roundg k2
              case measure => have := HK1.out; have := HK2.out; omega
              case rel => exact ⟨(y437), (wrap64 (x11_2 + 1)), (pF), H', ⟨by have := HK1.out; have := HK2.out; omega⟩, ⟨pV HO_0.out⟩, ⟨pV HO_1.out⟩, ⟨pR HO_10.out⟩, ⟨pB HB.out⟩⟩
             ·rw [if_neg c39] at H
              exact absurd H (by simp)
            ·rw [if_neg c38] at H
             exact absurd H (by simp)
           ·rw [if_neg c35] at H
            have c35b0 : (t434 == 1) = false := beq_eq_false_iff_ne.mpr c35
            have c35b1 : (t434 != 1) = true := bne_iff_ne.mpr c35
            simp only [Option.some.injEq, Prod.mk.injEq] at H
            obtain ⟨rfl, rfl⟩ := H
            go_wp2_with (first | ((with_reducible refine gate_callee (f := 53) rfl ?_); refine goesL_ (some 43) rfl rfl Try.func53 (by kernel_rfl) rfl #[.slice A0 l0.length c0, .int .i64 x11_2] rfl pA ?_; (with_reducible refine (spread_size.calls _ _ l0 x11_2 t433 _ ?side1 ?side2 A17.out).mono ?_); (case side1 => exact pC (Kd.V_reads' HO_0.out).2.2); (case side2 => exact (Kd.V_reads' HO_0.out).2.1); rintro e w' ⟨rfl, ⟨nd, rfl⟩⟩; refine ⟨_, rfl, ?_⟩) | ((with_reducible refine gate_callee (f := 53) rfl ?_); refine goesL_ (some 46) rfl rfl Try.func53 (by kernel_rfl) rfl #[.slice A1 l1.length c1, .int .i64 x11_2] rfl pA ?_; (with_reducible refine (spread_size.calls _ _ l1 x11_2 t434 _ ?side1 ?side2 A18.out).mono ?_); (case side1 => exact pC (Kd.V_reads' HO_1.out).2.2); (case side2 => exact (Kd.V_reads' HO_1.out).2.1); rintro e w' ⟨rfl, ⟨nd, rfl⟩⟩; refine ⟨_, rfl, ?_⟩))
            go_ret2
            exact ⟨_, by first | rfl | (simp [errW_none, errW_some] <;> rfl) | (simp only [← hji11]; first | rfl | (simp [errW_none, errW_some] <;> rfl)) | (simp [*, errW_none, errW_some] <;> rfl), by first | exact Kd.R_nil _ _ _ _ _ | exact Kd.N_nil _ _ _ _ _ | exact Kd.V_nil _ _ _ _ _ | exact Kd.Q_nil _ _ _ _ _ | exact Kd.S_nil _ _ _ _ _, pB HB.out⟩
        ·rw [if_neg c16] at H
         have c16b0 : decide (x11_2 ≤ ji11) = false := decide_eq_false c16
         clear c16
         replace H := Option.bind_eq_some_iff.mp H
         obtain ⟨t432, A430, H⟩ := H
         replace H : (if t432 = 0 then (some (x10_2, 0)) else (some (([] : List Int), t432))) = some (r1, r2) := H
         have A43 := Aside0.mk A430
         clear A430
         by_cases c44 : t432 = 0
         ·rw [if_pos c44] at H
          have c44b0 : (t432 == 0) = true := beq_iff_eq.mpr c44
          have c44b1 : (t432 != 0) = false := bne_eq_false_iff_eq.mpr c44
          clear c44
          simp only [Option.some.injEq, Prod.mk.injEq] at H
          obtain ⟨rfl, rfl⟩ := H
          obtain ⟨Ao45, co45, eo45⟩ := Kd.R_slice HO_10.out
          subst eo45
          go_wp2_with (first | ((with_reducible refine gate_callee (f := 26) rfl ?_); refine goesL_ (some 67) rfl rfl Try.func26 (by kernel_rfl) rfl #[.slice Ao45 x10_2.length co45] rfl pA ?_; (with_reducible refine (shape_Check.calls _ _ x10_2 t432 _ ?side1 ?side2 A43.out).mono ?_); (case side1 => exact pC (Kd.R_reads' HO_10.out).2.2); (case side2 => exact (Kd.R_reads' HO_10.out).2.1); rintro e w' ⟨rfl, ⟨nd, rfl⟩⟩; refine ⟨_, rfl, ?_⟩))
          go_ret2
          exact ⟨_, by first | rfl | (simp [errW_none, errW_some] <;> rfl) | (simp only [← hji11]; first | rfl | (simp [errW_none, errW_some] <;> rfl)) | (simp [*, errW_none, errW_some] <;> rfl), pR HO_10.out, pB HB.out⟩
         ·rw [if_neg c44] at H
          have c44b0 : (t432 == 0) = false := beq_eq_false_iff_ne.mpr c44
          have c44b1 : (t432 != 0) = true := bne_iff_ne.mpr c44
          simp only [Option.some.injEq, Prod.mk.injEq] at H
          obtain ⟨rfl, rfl⟩ := H
          obtain ⟨Ao46, co46, eo46⟩ := Kd.R_slice HO_10.out
          subst eo46
          go_wp2_with (first | ((with_reducible refine gate_callee (f := 26) rfl ?_); refine goesL_ (some 67) rfl rfl Try.func26 (by kernel_rfl) rfl #[.slice Ao46 x10_2.length co46] rfl pA ?_; (with_reducible refine (shape_Check.calls _ _ x10_2 t432 _ ?side1 ?side2 A43.out).mono ?_); (case side1 => exact pC (Kd.R_reads' HO_10.out).2.2); (case side2 => exact (Kd.R_reads' HO_10.out).2.1); rintro e w' ⟨rfl, ⟨nd, rfl⟩⟩; refine ⟨_, rfl, ?_⟩))
          go_ret2
          exact ⟨_, by first | rfl | (simp [errW_none, errW_some] <;> rfl) | (simp only [← hji11]; first | rfl | (simp [errW_none, errW_some] <;> rfl)) | (simp [*, errW_none, errW_some] <;> rfl), by first | exact Kd.R_nil _ _ _ _ _ | exact Kd.N_nil _ _ _ _ _ | exact Kd.V_nil _ _ _ _ _ | exact Kd.Q_nil _ _ _ _ _ | exact Kd.S_nil _ _ _ _ _, pB HB.out⟩
     ·rw [if_neg c13] at H
      exact absurd H (by simp)
    ·rw [if_neg c12] at H
     exact absurd H (by simp)

end Go.Proofs.Ytpoldofghcmfnaa.Q
