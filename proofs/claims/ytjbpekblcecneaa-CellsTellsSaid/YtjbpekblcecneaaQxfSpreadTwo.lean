-- By wip/gprint.py (this session's), out of the kit's print.py.
import Derived.Test.YtjbpekblcecneaaQx0
import Derived.Test.YtjbpekblcecneaaQxfShapeCheck
import Derived.Test.YtjbpekblcecneaaQxfSpreadSize
namespace Go.Proofs.Ytjbpekblcecneaa.Q
open Go.RowKit Go.Proofs.YtjbpekblcecneaaW.PrintWords Go.Proofs.YtjbpekblcecneaaW.PrintLast Go.Proofs.YtjbpekblcecneaaW.PrintMore
attribute [local go_sem] max2_int min2_int max_two min_two max_three min_three max_four min_four   -- for this text's walks alone
set_option linter.unusedVariables false
set_option linter.unusedSimpArgs false

/-! ### spread_Two: function 63 -/
mutual
def spread_Two.l0 : Nat → List Int → List Int → List (List Int) → Int → Int → Option (List Int × Int)
 | 0, _, _, _, _, _ => none
 | k + 1, x0, x1, x17, x18, x19 => if x19 < x18 then (if 0 ≤ x19 then (if x19 < (x17.length : Int) then ((shape_Check.f (rd_L1 x17 x19)).bind fun zj => (if zj = 0 then (spread_Two.l0 k x0 x1 x17 x18 (wrap64 (x19 + 1))) else (some (([] : List Int), zj)))) else (none)) else (none)) else (if 0 ≤ (mx (x0.length : Int) (x1.length : Int)) then (if (mx (x0.length : Int) (x1.length : Int) : Int).toNat ≤ 35184372088832 then (spread_Two.l1 k x0 x1 (mx (x0.length : Int) (x1.length : Int)) (List.replicate (mx (x0.length : Int) (x1.length : Int) : Int).toNat 0) 1) else (none)) else (none))
def spread_Two.l1 : Nat → List Int → List Int → Int → List Int → Int → Option (List Int × Int)
 | 0, _, _, _, _, _ => none
 | k + 1, x0, x1, x9, x10, x11 => if x11 ≤ x9 then ((spread_size.f x0 x11).bind fun zd => ((spread_size.f x1 x11).bind fun ze => (if zd = ze then (if 0 ≤ (wrap64 (x9 - x11)) then (if (wrap64 (x9 - x11)) < (x10.length : Int) then (spread_Two.l1 k x0 x1 x9 (x10.set ((wrap64 (x9 - x11)) : Int).toNat (mx zd ze)) (wrap64 (x11 + 1))) else (none)) else (none)) else (if zd = 1 then (if 0 ≤ (wrap64 (x9 - x11)) then (if (wrap64 (x9 - x11)) < (x10.length : Int) then (spread_Two.l1 k x0 x1 x9 (x10.set ((wrap64 (x9 - x11)) : Int).toNat (mx zd ze)) (wrap64 (x11 + 1))) else (none)) else (none)) else (if ze = 1 then (if 0 ≤ (wrap64 (x9 - x11)) then (if (wrap64 (x9 - x11)) < (x10.length : Int) then (spread_Two.l1 k x0 x1 x9 (x10.set ((wrap64 (x9 - x11)) : Int).toNat (mx zd ze)) (wrap64 (x11 + 1))) else (none)) else (none)) else (some (([] : List Int), 8))))))) else ((shape_Check.f x10).bind fun zk => (if zk = 0 then (some (x10, 0)) else (some (([] : List Int), zk))))
end
def spread_Two.f (k : Nat) (l0 : List Int) (l1 : List Int) : Option (List Int × Int) := (some (([l0, l1] : List (List Int)) : List (List Int))).bind fun zf => (spread_Two.l0 k l0 l1 zf (zf.length : Int) 0)
set_option maxHeartbeats 8000000 in
set_option maxRecDepth 100000 in
theorem spread_Two.calls (k : Nat) (P0_ : Nat → Prop) (A0 : Option Addr) (c0 : Nat) (l0 : List Int) (P1_ : Nat → Prop) (A1 : Option Addr) (c1 : Nat) (l1 : List Int) (r1 : List Int) (r2 : Int) (w : World) (hs0 : Kd.V (Kd.int .i64) 3 w w.heap.size (fun k_ => P0_ k_) (.slice A0 l0.length c0) l0) (hs1 : Kd.V (Kd.int .i64) 3 w w.heap.size (fun k_ => P1_ k_) (.slice A1 l1.length c1) l1) (h : spread_Two.f k l0 l1 = some (r1, r2)) :
  Calls Try.prog 63 #[.slice A0 l0.length c0, .slice A1 l1.length c1] w fun e w' => ∃ v0_ : Value, e = .returned (.tuple #[v0_, .int .i64 r2]) ∧ Kd.R (Kd.int .i64) 3 w' w.heap.size (fun k_ => (w.heap.size ≤ k_)) v0_ r1 ∧ Below w.heap.size w w' := by
 have HO0 := aM (show Kd.V (Kd.int .i64) 3 w w.heap.size (fun k_ => ((P0_ k_ ∨ P1_ k_) ∨ w.heap.size ≤ k_)) (.slice A0 l0.length c0) l0 from Kd.V_mono hs0 (fun k_ hk => .inl (.inl hk)))
 have HO1 := aM (show Kd.V (Kd.int .i64) 3 w w.heap.size (fun k_ => ((P0_ k_ ∨ P1_ k_) ∨ w.heap.size ≤ k_)) (.slice A1 l1.length c1) l1 from Kd.V_mono hs1 (fun k_ hk => .inl (.inr hk)))
 have HB := aM (Below.refl w.heap.size w)
 have H : ((some (([l0, l1] : List (List Int)) : List (List Int))).bind fun zf => (spread_Two.l0 k l0 l1 zf (zf.length : Int) 0)) = some (r1, r2) := h
 clear h
 obtain ⟨zf, zm⟩ : ∃ y_ : List (List Int), y_ = (([l0, l1] : List (List Int))) := ⟨_, rfl⟩
 replace H : (spread_Two.l0 k l0 l1 zf (zf.length : Int) 0) = some (r1, r2) := pH zm H
 have zu := aM zm
 clear zm
 have H' := aM H
 clear H
 go_enter Try.func63, Try.ntmps63
 go_wp2_with (first | ((with_reducible refine gate_dst (N := 17) rfl ?_); refine Kd.N_lit (Kd.slice 3 (Kd.int .i64)) _ 22 ?hg (N' := 17) ?hd (xs := ([l0, l1] : List (List Int))) (inner := [.slice A0 l0.length c0, .slice A1 l1.length c1]) (ok := (fun k_ => ((P0_ k_ ∨ P1_ k_) ∨ w.heap.size ≤ k_))) (okp := (fun k_ => ((P0_ k_ ∨ P1_ k_) ∨ w.heap.size ≤ k_))) ?hr ?hp (fun _ hk => hk) ((show ∀ k_, w.heap.size ≤ k_ → (fun k_ => ((P0_ k_ ∨ P1_ k_) ∨ w.heap.size ≤ k_)) k_ from fun k_ hk => (.inr (Nat.le_trans (below_size (qB HB)) hk))) _ (Nat.le_refl _)) (Below.refl _ _) (Nat.le_refl _) (by simp) ?_; (case hd => rfl); (case hg => rfl); (case hr => first | (go_simp; done) | (go_simp; rfl)); (case hp => exact (Reps.one (show Kd.FK (Kd.slice 3 (Kd.int .i64)) _ _ l0 [.slice A0 l0.length c0] from (Kd.FK_slice_mk (Kd.V_reads' (Kd.V_mono (ok' := (fun k_ => ((P0_ k_ ∨ P1_ k_) ∨ w.heap.size ≤ k_))) (HO0.out) (fun k_ hk => hk))).2.1 (Kd.V_F (Kd.V_mono (ok' := (fun k_ => ((P0_ k_ ∨ P1_ k_) ∨ w.heap.size ≤ k_))) (HO0.out) (fun k_ hk => hk))))) (Reps.one (show Kd.FK (Kd.slice 3 (Kd.int .i64)) _ _ l1 [.slice A1 l1.length c1] from (Kd.FK_slice_mk (Kd.V_reads' (Kd.V_mono (ok' := (fun k_ => ((P0_ k_ ∨ P1_ k_) ∨ w.heap.size ≤ k_))) (HO1.out) (fun k_ hk => hk))).2.1 (Kd.V_F (Kd.V_mono (ok' := (fun k_ => ((P0_ k_ ∨ P1_ k_) ∨ w.heap.size ≤ k_))) (HO1.out) (fun k_ hk => hk))))) (Reps.none _ _)))); intro v417 w3 ho4 hb hg_ hnew_; clear hg_ hnew_; (first | rw [← zu.out] at ho4 | (simp only [Int.reduceToNat] at ho4; rw [← zu.out] at ho4)); replace HO0 := aM (Kd.V_elder' (pV HO0.out) (Kd.N_base ho4) hb); replace HO1 := aM (Kd.V_elder' (pV HO1.out) (Kd.N_base ho4) hb); have zv := aM (Kd.N_lower ho4 (below_size (qB HB))); replace HB := bS (qB HB) hb; clear hb ho4; obtain ⟨Ao5, co5, eo5⟩ := Kd.N_slice zv.out; subst eo5))
 go_loopg [19] k (fun kq v19 w' => ∃ (x19_1 : Int), v19 = .int .i64 x19_1 ∧ Aside0 (spread_Two.l0 kq l0 l1 zf (zf.length : Int) x19_1 = some (r1, r2)) ∧ Aside0 (kq ≤ k) ∧ Aside0 (Kd.V (Kd.int .i64) 3 w' w.heap.size (fun k_ => ((P0_ k_ ∨ P1_ k_) ∨ w.heap.size ≤ k_) ∧ some k_ ≠ ((.slice Ao5 zf.length co5) : Value).ownBlock) (.slice A0 l0.length c0) l0) ∧ Aside0 (Kd.V (Kd.int .i64) 3 w' w.heap.size (fun k_ => ((P0_ k_ ∨ P1_ k_) ∨ w.heap.size ≤ k_) ∧ some k_ ≠ ((.slice Ao5 zf.length co5) : Value).ownBlock) (.slice A1 l1.length c1) l1) ∧ Aside0 (Kd.N (Kd.slice 3 (Kd.int .i64)) 22 w' w.heap.size (fun k_ => ((P0_ k_ ∨ P1_ k_) ∨ w.heap.size ≤ k_)) (.slice Ao5 zf.length co5) zf) ∧ Aside0 (Below w.heap.size w w'))
 case atStart => exact ⟨(0), (pF), H', ⟨Nat.le_refl _⟩, ⟨pV HO0.out⟩, ⟨pV HO1.out⟩, ⟨by (with_reducible repeat (first | apply Kd.N_alloc | apply Kd.N_drewN | apply Kd.N_drew)); exact zv.out⟩, ⟨qB HB⟩⟩
 case round =>
  clear H'
  try clear c1
  obtain ⟨x19_1, rfl, HA, HK1, zb, zc, zh, HB⟩ := hrel
  cases gk with
  | zero => exact absurd HA.out (by simp [spread_Two.l0])
  | succ k1 =>
   have H := HA.out
   clear HA
   simp only [spread_Two.l0] at H
   by_cases c6 : x19_1 < (zf.length : Int)
   ·rw [if_pos c6] at H
    have z0 : decide (x19_1 < (zf.length : Int)) = true := decide_eq_true c6
    clear c6
    by_cases c7 : 0 ≤ x19_1
    rotate_left
    ·rw [if_neg c7] at H
     exact absurd H (by simp)
    rw [if_pos c7] at H
    have c7b0 : decide (0 ≤ x19_1) = true := decide_eq_true c7
    clear c7
    by_cases c8 : x19_1 < (zf.length : Int)
    rotate_left
    ·rw [if_neg c8] at H
     exact absurd H (by simp)
    rw [if_pos c8] at H
    have c8b0 : decide (x19_1 < (zf.length : Int)) = true := decide_eq_true c8
    clear c8
    replace H := Option.bind_eq_some_iff.mp H
    obtain ⟨zj, A90, H⟩ := H
    try dsimp only at H
    have A9 := aM A90
    clear A90
    by_cases c10 : zj = 0
    rotate_left
    ·rw [if_neg c10] at H
     have c10b0 : (zj == 0) = false := beq_eq_false_iff_ne.mpr c10
     have c10b1 : (zj != 0) = true := bne_iff_ne.mpr c10
     simp only [Option.some.injEq, Prod.mk.injEq] at H
     obtain ⟨rfl, rfl⟩ := H
     have p419 : 0 ≤ (x19_1 : Int) := of_decide_eq_true pD
     have q419 : x19_1 < (zf.length : Int) := of_decide_eq_true pD
     obtain ⟨ad419, A419_0, c419_0, e419, hx419_0, hl419_0, hi419_0⟩ := at_L1 (Kd.N_reads' zh.out).2.2 x19_1 p419 q419
     cases e419
     obtain ⟨ce419, hce419, hMe419, hcc419⟩ := Kd.N_get zh.out [] x19_1 p419 (by first | exact q419 | exact of_decide_eq_true pD | (have e_ := (Kd.N_reads' zh.out).1; omega))
     obtain ⟨ua419_0, uc419_0, rfl, ul419_0, ge419_0⟩ := Kd.FK_slice_open hMe419
     have hv419_0 := hcc419 0 _ rfl
     rw [Nat.add_zero, show ((Kd.slice 3 (Kd.int .i64))).sz = 1 from rfl, Nat.mul_one] at hv419_0
     replace hv419_0 := Option.some.inj (hv419_0.symm.trans hx419_0)
     injection hv419_0 with hva_ hvn_ hvc_
     rw [hva_] at ge419_0
     rw [hvc_] at ul419_0
     have HL419_0 := aM (show Kd.V (Kd.int .i64) 3 _ w.heap.size _ _ (rd_L1 zf x19_1) from Kd.V_mk ul419_0 ge419_0)
     clear hva_ hvn_ hvc_ ge419_0 ul419_0
     clear hcc419 hce419
     have zi := aM hi419_0
     have zl := aM hl419_0
     clear hi419_0 hl419_0
     replace p419 := eq_true p419
     replace q419 := eq_true q419
     go_wp2_with (first | ((with_reducible refine gate_callee (f := 41) rfl ?_); refine goesL_ (some 24) rfl rfl Try.func41 (by kernel_rfl) rfl #[.slice A419_0 (rd_L1 zf x19_1).length c419_0] rfl pA ?_; (with_reducible refine (shape_Check.calls _ _ (rd_L1 zf x19_1) zj _ ?s1 ?s2 A9.out).mono ?_); (case s1 => repeat (first | exact (by repeat (first | (with_reducible exact zi.out) | (with_reducible refine Kd.C_alloc ?_ _) | (with_reducible refine Kd.C_drewN ?_ _) | (with_reducible refine Kd.C_drew ?_) | exact zi.out)) | (with_reducible refine Kd.C_alloc ?_ _) | (with_reducible refine Kd.C_drewN ?_ _) | (with_reducible refine Kd.C_drew ?_))); (case s2 => exact zl.out); rintro e w' ⟨rfl, ⟨nd, rfl⟩⟩; refine ⟨_, rfl, ?_⟩))
     go_ret2
     exact ⟨_, pE, pN, qB HB⟩
    rw [if_pos c10] at H
    have c10b0 : (zj == 0) = true := beq_iff_eq.mpr c10
    have c10b1 : (zj != 0) = false := bne_eq_false_iff_eq.mpr c10
    clear c10
    have H' := aM H
    clear H
    have p419 : 0 ≤ (x19_1 : Int) := of_decide_eq_true pD
    have q419 : x19_1 < (zf.length : Int) := of_decide_eq_true pD
    obtain ⟨ad419, A419_0, c419_0, e419, hx419_0, hl419_0, hi419_0⟩ := at_L1 (Kd.N_reads' zh.out).2.2 x19_1 p419 q419
    cases e419
    obtain ⟨ce419, hce419, hMe419, hcc419⟩ := Kd.N_get zh.out [] x19_1 p419 (by first | exact q419 | exact of_decide_eq_true pD | (have e_ := (Kd.N_reads' zh.out).1; omega))
    obtain ⟨ua419_0, uc419_0, rfl, ul419_0, ge419_0⟩ := Kd.FK_slice_open hMe419
    have hv419_0 := hcc419 0 _ rfl
    rw [Nat.add_zero, show ((Kd.slice 3 (Kd.int .i64))).sz = 1 from rfl, Nat.mul_one] at hv419_0
    replace hv419_0 := Option.some.inj (hv419_0.symm.trans hx419_0)
    injection hv419_0 with hva_ hvn_ hvc_
    rw [hva_] at ge419_0
    rw [hvc_] at ul419_0
    have HL419_0 := aM (show Kd.V (Kd.int .i64) 3 _ w.heap.size _ _ (rd_L1 zf x19_1) from Kd.V_mk ul419_0 ge419_0)
    clear hva_ hvn_ hvc_ ge419_0 ul419_0
    clear hcc419 hce419
    have zi := aM hi419_0
    have zl := aM hl419_0
    clear hi419_0 hl419_0
    replace p419 := eq_true p419
    replace q419 := eq_true q419
    go_wp2_with (first | ((with_reducible refine gate_callee (f := 41) rfl ?_); refine goesL_ (some 24) rfl rfl Try.func41 (by kernel_rfl) rfl #[.slice A419_0 (rd_L1 zf x19_1).length c419_0] rfl pA ?_; (with_reducible refine (shape_Check.calls _ _ (rd_L1 zf x19_1) zj _ ?s1 ?s2 A9.out).mono ?_); (case s1 => repeat (first | exact (by repeat (first | (with_reducible exact zi.out) | (with_reducible refine Kd.C_alloc ?_ _) | (with_reducible refine Kd.C_drewN ?_ _) | (with_reducible refine Kd.C_drew ?_) | exact zi.out)) | (with_reducible refine Kd.C_alloc ?_ _) | (with_reducible refine Kd.C_drewN ?_ _) | (with_reducible refine Kd.C_drew ?_))); (case s2 => exact zl.out); rintro e w' ⟨rfl, ⟨nd, rfl⟩⟩; refine ⟨_, rfl, ?_⟩))
    go_roundg k1
    case measure => have := HK1.out; omega
    case rel => exact ⟨(wrap64 (x19_1 + 1)), (pF), H', ⟨by have := HK1.out; omega⟩, ⟨pV zb.out⟩, ⟨pV zc.out⟩, ⟨by (with_reducible repeat (first | apply Kd.N_alloc | apply Kd.N_drewN | apply Kd.N_drew)); exact zh.out⟩, ⟨qB HB⟩⟩
   rw [if_neg c6] at H
   have z0 : decide (x19_1 < (zf.length : Int)) = false := decide_eq_false c6
   clear c6
   obtain ⟨ji11, hji11⟩ : ∃ j_ : Int, (mx (l0.length : Int) (l1.length : Int)) = j_ := ⟨_, rfl⟩
   replace H : (if 0 ≤ (ji11) then (if (ji11 : Int).toNat ≤ 35184372088832 then (spread_Two.l1 k1 l0 l1 ji11 (List.replicate (ji11 : Int).toNat 0) 1) else (none)) else (none)) = some (r1, r2) := by first | (rw [hji11] at H; exact H) | (simp only [hji11] at H ⊢; exact H)
   have hji11_ : (if (l0.length : Int) < (l1.length : Int) then (l1.length : Int) else (l0.length : Int)) = ji11 := hji11
   have hji11_n : (if l0.length < l1.length then (l1.length : Int) else (l0.length : Int)) = ji11 := by simpa only [Int.ofNat_lt] using hji11_
   by_cases c12 : 0 ≤ (ji11)
   rotate_left
   ·rw [if_neg c12] at H
    exact absurd H (by simp)

   rw [if_pos c12] at H
   have c12b0 := eq_true c12
   have c12b1 : decide (0 ≤ (ji11)) = true := decide_eq_true c12
   clear c12
   by_cases c13 : (ji11 : Int).toNat ≤ 35184372088832
   rotate_left
   ·rw [if_neg c13] at H
    exact absurd H (by simp)
   rw [if_pos c13] at H
   have c13b0 := eq_true c13
   have c13b1 : decide ((ji11 : Int).toNat ≤ 35184372088832) = true := decide_eq_true c13
   clear c13
   obtain ⟨z1, zn⟩ : ∃ y_ : List Int, y_ = (List.replicate (ji11 : Int).toNat 0) := ⟨_, rfl⟩
   replace H : (spread_Two.l1 k1 l0 l1 ji11 z1 1) = some (r1, r2) := pH zn H
   have zw := aM zn
   clear zn
   have H' := aM H
   clear H
   go_wp2_with (first | ((with_reducible refine gate_dst (N := 35) rfl ?_); refine Kd.R_make (Kd.int .i64) _ 3 rfl (N := 35) rfl 22 _ _ rfl ji11 rfl rfl Try.underlying22 (.int .i64 0) 8 info3 rfl (by decide) (by omega) 0 (ok := fun _ => True) (okp := fun _ => True) rfl (fun _ hk => hk) trivial (of_decide_eq_true pD) (Nat.le_trans (Nat.mul_le_mul_right _ (of_decide_eq_true pD : ji11.toNat ≤ 35184372088832)) (by omega)) (Below.refl _ _) (Nat.le_refl _) ?_; intro zg w14 ho15 hb hg_ hnew_; clear hg_ hnew_; (first | rw [← zw.out] at ho15 | (simp only [Int.reduceToNat] at ho15; rw [← zw.out] at ho15)); replace zb := aM (Kd.V_elder' (pV zb.out) (Kd.R_base ho15) hb); replace zc := aM (Kd.V_elder' (pV zc.out) (Kd.R_base ho15) hb); replace zh := aM (Kd.N_elder' (by (with_reducible repeat (first | apply Kd.N_alloc | apply Kd.N_drewN | apply Kd.N_drew)); exact zh.out) (Kd.R_base ho15) hb); have HO423 := aM (Kd.R_lower (Kd.R_newM (M := fun k_ => (w.heap.size ≤ k_)) ho15 (below_size (qB HB)) (fun k_ h_ => h_)) (below_size (qB HB))); replace HB := bS (qB HB) hb; clear hb ho15))
   go_loopg [11] k1 (fun kq v11 w' => ∃ (x10_2 : List Int) (x11_2 : Int), v11 = .int .i64 x11_2 ∧ Aside0 (spread_Two.l1 kq l0 l1 ji11 x10_2 x11_2 = some (r1, r2)) ∧ Aside0 (kq ≤ k1) ∧ Aside0 (Kd.V (Kd.int .i64) 3 w' w.heap.size (fun k_ => ((P0_ k_ ∨ P1_ k_) ∨ w.heap.size ≤ k_) ∧ some k_ ≠ (zg : Value).ownBlock) (.slice A0 l0.length c0) l0) ∧ Aside0 (Kd.V (Kd.int .i64) 3 w' w.heap.size (fun k_ => ((P0_ k_ ∨ P1_ k_) ∨ w.heap.size ≤ k_) ∧ some k_ ≠ (zg : Value).ownBlock) (.slice A1 l1.length c1) l1) ∧ Aside0 (Kd.R (Kd.int .i64) 3 w' w.heap.size (fun k_ => (w.heap.size ≤ k_)) zg x10_2) ∧ Aside0 (Below w.heap.size w w'))
   case atStart => exact ⟨(z1), (1), (pF), H', ⟨Nat.le_refl _⟩, ⟨by (with_reducible repeat (first | apply Kd.V_alloc | apply Kd.V_drewN | apply Kd.V_drew)); exact Kd.V_mono zb.out (fun _ hk => ⟨hk.1.1, hk.2⟩)⟩, ⟨by (with_reducible repeat (first | apply Kd.V_alloc | apply Kd.V_drewN | apply Kd.V_drew)); exact Kd.V_mono zc.out (fun _ hk => ⟨hk.1.1, hk.2⟩)⟩, ⟨by (with_reducible repeat (first | apply rA | apply rN | apply rD)); exact Kd.R_mono HO423.out (fun _ hk => hk.1)⟩, ⟨qB HB⟩⟩
   case round =>
    clear H'
    try clear c1
    try clear z0
    try clear c12b0
    try clear c12b1
    try clear c13b0
    try clear c13b1
    obtain ⟨x10_2, x11_2, rfl, HA, HK2, zb, zc, za, HB⟩ := hrel
    cases gk with
    | zero => exact absurd HA.out (by simp [spread_Two.l1])
    | succ k2 =>
     have H := HA.out
     clear HA
     simp only [spread_Two.l1] at H
     by_cases c16 : x11_2 ≤ ji11
     rotate_left
     ·rw [if_neg c16] at H
      have c16b0 : decide (x11_2 ≤ ji11) = false := decide_eq_false c16
      clear c16
      replace H := Option.bind_eq_some_iff.mp H
      obtain ⟨zk, z2, H⟩ := H
      try dsimp only at H
      have A43 := aM z2
      clear z2
      by_cases c44 : zk = 0
      rotate_left
      ·rw [if_neg c44] at H
       have c44b0 : (zk == 0) = false := beq_eq_false_iff_ne.mpr c44
       have c44b1 : (zk != 0) = true := bne_iff_ne.mpr c44
       simp only [Option.some.injEq, Prod.mk.injEq] at H
       obtain ⟨rfl, rfl⟩ := H
       obtain ⟨Ao46, co46, eo46⟩ := Kd.R_slice za.out
       subst eo46
       go_wp2_with (first | ((with_reducible refine gate_callee (f := 41) rfl ?_); refine goesL_ (some 67) rfl rfl Try.func41 (by kernel_rfl) rfl #[.slice Ao46 x10_2.length co46] rfl pA ?_; (with_reducible refine (shape_Check.calls _ _ x10_2 zk _ ?s1 ?s2 A43.out).mono ?_); (case s1 => exact sR za); (case s2 => exact sL za); rintro e w' ⟨rfl, ⟨nd, rfl⟩⟩; refine ⟨_, rfl, ?_⟩))
       go_ret2
       exact ⟨_, by first | rfl | (simp [errW_none, errW_some] <;> rfl) | (simp only [← hji11]; first | rfl | (simp [errW_none, errW_some] <;> rfl)) | (simp [*, errW_none, errW_some] <;> rfl), pN, qB HB⟩
      rw [if_pos c44] at H
      have c44b0 : (zk == 0) = true := beq_iff_eq.mpr c44
      have c44b1 : (zk != 0) = false := bne_eq_false_iff_eq.mpr c44
      clear c44
      simp only [Option.some.injEq, Prod.mk.injEq] at H
      obtain ⟨rfl, rfl⟩ := H
      obtain ⟨Ao45, co45, eo45⟩ := Kd.R_slice za.out
      subst eo45
      go_wp2_with (first | ((with_reducible refine gate_callee (f := 41) rfl ?_); refine goesL_ (some 67) rfl rfl Try.func41 (by kernel_rfl) rfl #[.slice Ao45 x10_2.length co45] rfl pA ?_; (with_reducible refine (shape_Check.calls _ _ x10_2 zk _ ?s1 ?s2 A43.out).mono ?_); (case s1 => exact sR za); (case s2 => exact sL za); rintro e w' ⟨rfl, ⟨nd, rfl⟩⟩; refine ⟨_, rfl, ?_⟩))
      go_ret2
      exact ⟨_, by first | rfl | (simp [errW_none, errW_some] <;> rfl) | (simp only [← hji11]; first | rfl | (simp [errW_none, errW_some] <;> rfl)) | (simp [*, errW_none, errW_some] <;> rfl), pR za.out, qB HB⟩
     rw [if_pos c16] at H
     have c16b0 : decide (x11_2 ≤ ji11) = true := decide_eq_true c16
     clear c16
     replace H := Option.bind_eq_some_iff.mp H
     obtain ⟨zd, z3, H⟩ := H
     try dsimp only at H
     have A17 := aM z3
     clear z3
     replace H := Option.bind_eq_some_iff.mp H
     obtain ⟨ze, z4, H⟩ := H
     try dsimp only at H
     have A18 := aM z4
     clear z4
     by_cases c19 : zd = ze
     ·rw [if_pos c19] at H
      have c19b0 : (zd == ze) = true := beq_iff_eq.mpr c19
      have c19b1 : (zd != ze) = false := bne_eq_false_iff_eq.mpr c19
      clear c19
      obtain ⟨ji20, hji20⟩ : ∃ j_ : Int, (mx zd ze) = j_ := ⟨_, rfl⟩
      replace H : (if 0 ≤ (wrap64 (ji11 - x11_2)) then (if (wrap64 (ji11 - x11_2)) < (x10_2.length : Int) then (spread_Two.l1 k2 l0 l1 ji11 (x10_2.set ((wrap64 (ji11 - x11_2)) : Int).toNat (ji20)) (wrap64 (x11_2 + 1))) else (none)) else (none)) = some (r1, r2) := by first | (rw [hji20] at H; exact H) | (simp only [hji20] at H ⊢; exact H)
      (try rw [hji20] at A17)
      (try rw [hji20] at A18)
      have hji20_ : (if zd < ze then ze else zd) = ji20 := hji20
      obtain ⟨ji21, hji21⟩ : ∃ j_ : Int, (wrap64 (ji11 - x11_2)) = j_ := ⟨_, rfl⟩
      replace H : (if 0 ≤ (ji21) then (if (ji21) < (x10_2.length : Int) then (spread_Two.l1 k2 l0 l1 ji11 (x10_2.set ((ji21) : Int).toNat (ji20)) (wrap64 (x11_2 + 1))) else (none)) else (none)) = some (r1, r2) := by first | (rw [hji21] at H; exact H) | (simp only [hji21] at H ⊢; exact H)
      (try rw [hji21] at A17)
      (try rw [hji21] at A18)
      have hji21w : (IntKind.i64.wrap (ji11 - x11_2)) = ji21 := (i64_w _).trans hji21
      by_cases c22 : 0 ≤ (ji21)
      rotate_left
      ·rw [if_neg c22] at H
       exact absurd H (by simp)
      rw [if_pos c22] at H
      have c22b0 : decide (0 ≤ (ji21)) = true := decide_eq_true c22
      clear c22
      by_cases c23 : (ji21) < (x10_2.length : Int)
      rotate_left
      ·rw [if_neg c23] at H
       exact absurd H (by simp)
      rw [if_pos c23] at H
      have c23b0 : decide ((ji21) < (x10_2.length : Int)) = true := decide_eq_true c23
      clear c23
      obtain ⟨zx, zo⟩ : ∃ y_ : List Int, y_ = (x10_2.set ((ji21) : Int).toNat (ji20)) := ⟨_, rfl⟩
      replace H : (spread_Two.l1 k2 l0 l1 ji11 zx (wrap64 (x11_2 + 1))) = some (r1, r2) := pH zo H
      have Ny427 := aM zo
      clear zo
      have H' := aM H
      clear H
      go_wp2_with (first | ((with_reducible refine gate_callee (f := 70) rfl ?_); refine goesL_ (some 43) rfl rfl Try.func70 (by kernel_rfl) rfl #[.slice A0 l0.length c0, .int .i64 x11_2] rfl pA ?_; (with_reducible refine (spread_size.calls _ _ l0 x11_2 zd _ ?s1 ?s2 A17.out).mono ?_); (case s1 => exact pC (Kd.V_reads' zb.out).2.2); (case s2 => exact (Kd.V_reads' zb.out).2.1); rintro e w' ⟨rfl, ⟨nd, rfl⟩⟩; refine ⟨_, rfl, ?_⟩; (try (rw [drewN_self wr]; generalize hq_ : World.drewN wr _ = wr; have n0_ : Aside0 (Kd.V (Kd.int .i64) 3 wr w.heap.size (fun k_ => ((P0_ k_ ∨ P1_ k_) ∨ w.heap.size ≤ k_) ∧ some k_ ≠ (zg : Value).ownBlock) (.slice A0 l0.length c0) l0) := ⟨by rw [← hq_]; exact (pV zb.out)⟩; have n1_ : Aside0 (Kd.V (Kd.int .i64) 3 wr w.heap.size (fun k_ => ((P0_ k_ ∨ P1_ k_) ∨ w.heap.size ≤ k_) ∧ some k_ ≠ (zg : Value).ownBlock) (.slice A1 l1.length c1) l1) := ⟨by rw [← hq_]; exact (pV zc.out)⟩; have n2_ : Aside0 (Kd.R (Kd.int .i64) 3 wr w.heap.size (fun k_ => (w.heap.size ≤ k_)) zg x10_2) := ⟨by rw [← hq_]; exact (pR za.out)⟩; have n3_ : Aside0 (Below w.heap.size w wr) := ⟨by rw [← hq_]; exact (qB HB)⟩; clear zb zc za HB hq_; have zb := n0_; have zc := n1_; have za := n2_; have HB := n3_; clear n0_ n1_ n2_ n3_))) | ((with_reducible refine gate_callee (f := 70) rfl ?_); refine goesL_ (some 46) rfl rfl Try.func70 (by kernel_rfl) rfl #[.slice A1 l1.length c1, .int .i64 x11_2] rfl pA ?_; (with_reducible refine (spread_size.calls _ _ l1 x11_2 ze _ ?s1 ?s2 A18.out).mono ?_); (case s1 => exact pC (Kd.V_reads' zc.out).2.2); (case s2 => exact (Kd.V_reads' zc.out).2.1); rintro e w' ⟨rfl, ⟨nd, rfl⟩⟩; refine ⟨_, rfl, ?_⟩; (try (rw [drewN_self wr]; generalize hq_ : World.drewN wr _ = wr; have n0_ : Aside0 (Kd.V (Kd.int .i64) 3 wr w.heap.size (fun k_ => ((P0_ k_ ∨ P1_ k_) ∨ w.heap.size ≤ k_) ∧ some k_ ≠ (zg : Value).ownBlock) (.slice A0 l0.length c0) l0) := ⟨by rw [← hq_]; exact (pV zb.out)⟩; have n1_ : Aside0 (Kd.V (Kd.int .i64) 3 wr w.heap.size (fun k_ => ((P0_ k_ ∨ P1_ k_) ∨ w.heap.size ≤ k_) ∧ some k_ ≠ (zg : Value).ownBlock) (.slice A1 l1.length c1) l1) := ⟨by rw [← hq_]; exact (pV zc.out)⟩; have n2_ : Aside0 (Kd.R (Kd.int .i64) 3 wr w.heap.size (fun k_ => (w.heap.size ≤ k_)) zg x10_2) := ⟨by rw [← hq_]; exact (pR za.out)⟩; have n3_ : Aside0 (Below w.heap.size w wr) := ⟨by rw [← hq_]; exact (qB HB)⟩; clear zb zc za HB hq_; have zb := n0_; have zc := n1_; have za := n2_; have HB := n3_; clear n0_ n1_ n2_ n3_)); have p24 : 0 ≤ ((ji21) : Int) := of_decide_eq_true pD; have q24 : ((ji21) : Int) < ((x10_2.length : Int) : Int) := of_decide_eq_true pD; obtain ⟨go24, zp, z5, z6, gl24, cl24, HG24⟩ := Kd.R_form za.out (by omega); (first | cases z5 | (injection z5 with ea_ en_ ec_; (first | subst ea_ | (injection ea_ with ea_; subst ea_)); subst ec_; clear en_)); have GB24 := aM z6; have GG24 := aM HG24; clear z6 gl24 HG24; obtain ⟨hx24_0, hf24_0⟩ := Kd.R_celln 0 za.out ((ji21) : Int) p24 q24; replace p24 := eq_true p24; replace q24 := eq_true q24; obtain ⟨hy25_, hz25_⟩ := Kd.R_celln 0 za.out ((ji21) : Int) (of_decide_eq_true pD) (of_decide_eq_true pD); have HP25 := Kd.R_putg za.out ((ji21) : Int) ji20) | ((with_reducible refine gate_store (t := 3) (p := 65) rfl ?_); refine store_event (t := 3) (p := 65) (v := ?vo_w26) (w1 := (wr.setCell ⟨go24, ((ji21) : Int).toNat, none⟩ (.int .i64 ji20))) ?hg ?ho ?hn ?hr ?_; (case ho => rfl); (case hg => rfl); (case hn => rfl); (case hr => first | (go_simp; done) | (go_simp; rfl)); intro w26 hw; have hg : wr.grownBy w26 (some go24) := (by rw [hw]; exact HP25.2); have hp_ : Kd.R (Kd.int .i64) 3 w26 w.heap.size (fun k_ => (w.heap.size ≤ k_)) (.slice (some ⟨go24, 0, none⟩) x10_2.length zp) zx := (by rw [hw, Ny427.out]; exact HP25.1); clear HP25; replace zb := aM (Kd.V_afterv (v := (.slice (some ⟨go24, 0, none⟩) x10_2.length zp)) (v1 := (.slice (some ⟨go24, 0, none⟩) x10_2.length zp)) (ok := (fun k_ => ((P0_ k_ ∨ P1_ k_) ∨ w.heap.size ≤ k_))) (pV zb.out) hg (.inl rfl)); replace zc := aM (Kd.V_afterv (v := (.slice (some ⟨go24, 0, none⟩) x10_2.length zp)) (v1 := (.slice (some ⟨go24, 0, none⟩) x10_2.length zp)) (ok := (fun k_ => ((P0_ k_ ∨ P1_ k_) ∨ w.heap.size ≤ k_))) (pV zc.out) hg (.inl rfl)); replace za := aM (hp_); replace HB := aM ((by rw [hw]; exact below_set (HB.out) GB24.out : Below w.heap.size w w26)); clear hg hw hp_))
      go_roundg k2
      case measure => have := HK1.out; have := HK2.out; omega
      case rel => exact ⟨(zx), (wrap64 (x11_2 + 1)), (pF), H', ⟨by have := HK1.out; have := HK2.out; omega⟩, ⟨pV zb.out⟩, ⟨pV zc.out⟩, ⟨pR za.out⟩, ⟨qB HB⟩⟩
     rw [if_neg c19] at H
     have c19b0 : (zd == ze) = false := beq_eq_false_iff_ne.mpr c19
     have c19b1 : (zd != ze) = true := bne_iff_ne.mpr c19
     by_cases c27 : zd = 1
     ·rw [if_pos c27] at H
      have c27b0 : (zd == 1) = true := beq_iff_eq.mpr c27
      have c27b1 : (zd != 1) = false := bne_eq_false_iff_eq.mpr c27
      clear c27
      obtain ⟨ji28, hji28⟩ : ∃ j_ : Int, (mx zd ze) = j_ := ⟨_, rfl⟩
      replace H : (if 0 ≤ (wrap64 (ji11 - x11_2)) then (if (wrap64 (ji11 - x11_2)) < (x10_2.length : Int) then (spread_Two.l1 k2 l0 l1 ji11 (x10_2.set ((wrap64 (ji11 - x11_2)) : Int).toNat (ji28)) (wrap64 (x11_2 + 1))) else (none)) else (none)) = some (r1, r2) := by first | (rw [hji28] at H; exact H) | (simp only [hji28] at H ⊢; exact H)
      (try rw [hji28] at A17)
      (try rw [hji28] at A18)
      have hji28_ : (if zd < ze then ze else zd) = ji28 := hji28
      obtain ⟨ji29, hji29⟩ : ∃ j_ : Int, (wrap64 (ji11 - x11_2)) = j_ := ⟨_, rfl⟩
      replace H : (if 0 ≤ (ji29) then (if (ji29) < (x10_2.length : Int) then (spread_Two.l1 k2 l0 l1 ji11 (x10_2.set ((ji29) : Int).toNat (ji28)) (wrap64 (x11_2 + 1))) else (none)) else (none)) = some (r1, r2) := by first | (rw [hji29] at H; exact H) | (simp only [hji29] at H ⊢; exact H)
      (try rw [hji29] at A17)
      (try rw [hji29] at A18)
      have hji29w : (IntKind.i64.wrap (ji11 - x11_2)) = ji29 := (i64_w _).trans hji29
      by_cases c30 : 0 ≤ (ji29)
      rotate_left
      ·rw [if_neg c30] at H
       exact absurd H (by simp)
      rw [if_pos c30] at H
      have c30b0 : decide (0 ≤ (ji29)) = true := decide_eq_true c30
      clear c30
      by_cases c31 : (ji29) < (x10_2.length : Int)
      rotate_left
      ·rw [if_neg c31] at H
       exact absurd H (by simp)
      rw [if_pos c31] at H
      have c31b0 : decide ((ji29) < (x10_2.length : Int)) = true := decide_eq_true c31
      clear c31
      obtain ⟨zy, zq⟩ : ∃ y_ : List Int, y_ = (x10_2.set ((ji29) : Int).toNat (ji28)) := ⟨_, rfl⟩
      replace H : (spread_Two.l1 k2 l0 l1 ji11 zy (wrap64 (x11_2 + 1))) = some (r1, r2) := pH zq H
      have Ny428 := aM zq
      clear zq
      have H' := aM H
      clear H
      go_wp2_with (first | ((with_reducible refine gate_callee (f := 70) rfl ?_); refine goesL_ (some 43) rfl rfl Try.func70 (by kernel_rfl) rfl #[.slice A0 l0.length c0, .int .i64 x11_2] rfl pA ?_; (with_reducible refine (spread_size.calls _ _ l0 x11_2 zd _ ?s1 ?s2 A17.out).mono ?_); (case s1 => exact pC (Kd.V_reads' zb.out).2.2); (case s2 => exact (Kd.V_reads' zb.out).2.1); rintro e w' ⟨rfl, ⟨nd, rfl⟩⟩; refine ⟨_, rfl, ?_⟩; (try (rw [drewN_self wr]; generalize hq_ : World.drewN wr _ = wr; have n0_ : Aside0 (Kd.V (Kd.int .i64) 3 wr w.heap.size (fun k_ => ((P0_ k_ ∨ P1_ k_) ∨ w.heap.size ≤ k_) ∧ some k_ ≠ (zg : Value).ownBlock) (.slice A0 l0.length c0) l0) := ⟨by rw [← hq_]; exact (pV zb.out)⟩; have n1_ : Aside0 (Kd.V (Kd.int .i64) 3 wr w.heap.size (fun k_ => ((P0_ k_ ∨ P1_ k_) ∨ w.heap.size ≤ k_) ∧ some k_ ≠ (zg : Value).ownBlock) (.slice A1 l1.length c1) l1) := ⟨by rw [← hq_]; exact (pV zc.out)⟩; have n2_ : Aside0 (Kd.R (Kd.int .i64) 3 wr w.heap.size (fun k_ => (w.heap.size ≤ k_)) zg x10_2) := ⟨by rw [← hq_]; exact (pR za.out)⟩; have n3_ : Aside0 (Below w.heap.size w wr) := ⟨by rw [← hq_]; exact (qB HB)⟩; clear zb zc za HB hq_; have zb := n0_; have zc := n1_; have za := n2_; have HB := n3_; clear n0_ n1_ n2_ n3_))) | ((with_reducible refine gate_callee (f := 70) rfl ?_); refine goesL_ (some 46) rfl rfl Try.func70 (by kernel_rfl) rfl #[.slice A1 l1.length c1, .int .i64 x11_2] rfl pA ?_; (with_reducible refine (spread_size.calls _ _ l1 x11_2 ze _ ?s1 ?s2 A18.out).mono ?_); (case s1 => exact pC (Kd.V_reads' zc.out).2.2); (case s2 => exact (Kd.V_reads' zc.out).2.1); rintro e w' ⟨rfl, ⟨nd, rfl⟩⟩; refine ⟨_, rfl, ?_⟩; (try (rw [drewN_self wr]; generalize hq_ : World.drewN wr _ = wr; have n0_ : Aside0 (Kd.V (Kd.int .i64) 3 wr w.heap.size (fun k_ => ((P0_ k_ ∨ P1_ k_) ∨ w.heap.size ≤ k_) ∧ some k_ ≠ (zg : Value).ownBlock) (.slice A0 l0.length c0) l0) := ⟨by rw [← hq_]; exact (pV zb.out)⟩; have n1_ : Aside0 (Kd.V (Kd.int .i64) 3 wr w.heap.size (fun k_ => ((P0_ k_ ∨ P1_ k_) ∨ w.heap.size ≤ k_) ∧ some k_ ≠ (zg : Value).ownBlock) (.slice A1 l1.length c1) l1) := ⟨by rw [← hq_]; exact (pV zc.out)⟩; have n2_ : Aside0 (Kd.R (Kd.int .i64) 3 wr w.heap.size (fun k_ => (w.heap.size ≤ k_)) zg x10_2) := ⟨by rw [← hq_]; exact (pR za.out)⟩; have n3_ : Aside0 (Below w.heap.size w wr) := ⟨by rw [← hq_]; exact (qB HB)⟩; clear zb zc za HB hq_; have zb := n0_; have zc := n1_; have za := n2_; have HB := n3_; clear n0_ n1_ n2_ n3_)); have p32 : 0 ≤ ((ji29) : Int) := of_decide_eq_true pD; have q32 : ((ji29) : Int) < ((x10_2.length : Int) : Int) := of_decide_eq_true pD; obtain ⟨go32, zr, z7, z8, gl32, cl32, HG32⟩ := Kd.R_form za.out (by omega); (first | cases z7 | (injection z7 with ea_ en_ ec_; (first | subst ea_ | (injection ea_ with ea_; subst ea_)); subst ec_; clear en_)); have GB32 := aM z8; have GG32 := aM HG32; clear z8 gl32 HG32; obtain ⟨hx32_0, hf32_0⟩ := Kd.R_celln 0 za.out ((ji29) : Int) p32 q32; replace p32 := eq_true p32; replace q32 := eq_true q32; obtain ⟨hy33_, hz33_⟩ := Kd.R_celln 0 za.out ((ji29) : Int) (of_decide_eq_true pD) (of_decide_eq_true pD); have HP33 := Kd.R_putg za.out ((ji29) : Int) ji28) | ((with_reducible refine gate_store (t := 3) (p := 65) rfl ?_); refine store_event (t := 3) (p := 65) (v := ?vo_w34) (w1 := (wr.setCell ⟨go32, ((ji29) : Int).toNat, none⟩ (.int .i64 ji28))) ?hg ?ho ?hn ?hr ?_; (case ho => rfl); (case hg => rfl); (case hn => rfl); (case hr => first | (go_simp; done) | (go_simp; rfl)); intro w34 hw; have hg : wr.grownBy w34 (some go32) := (by rw [hw]; exact HP33.2); have hp_ : Kd.R (Kd.int .i64) 3 w34 w.heap.size (fun k_ => (w.heap.size ≤ k_)) (.slice (some ⟨go32, 0, none⟩) x10_2.length zr) zy := (by rw [hw, Ny428.out]; exact HP33.1); clear HP33; replace zb := aM (Kd.V_afterv (v := (.slice (some ⟨go32, 0, none⟩) x10_2.length zr)) (v1 := (.slice (some ⟨go32, 0, none⟩) x10_2.length zr)) (ok := (fun k_ => ((P0_ k_ ∨ P1_ k_) ∨ w.heap.size ≤ k_))) (pV zb.out) hg (.inl rfl)); replace zc := aM (Kd.V_afterv (v := (.slice (some ⟨go32, 0, none⟩) x10_2.length zr)) (v1 := (.slice (some ⟨go32, 0, none⟩) x10_2.length zr)) (ok := (fun k_ => ((P0_ k_ ∨ P1_ k_) ∨ w.heap.size ≤ k_))) (pV zc.out) hg (.inl rfl)); replace za := aM (hp_); replace HB := aM ((by rw [hw]; exact below_set (HB.out) GB32.out : Below w.heap.size w w34)); clear hg hw hp_))
      go_roundg k2
      case measure => have := HK1.out; have := HK2.out; omega
      case rel => exact ⟨(zy), (wrap64 (x11_2 + 1)), (pF), H', ⟨by have := HK1.out; have := HK2.out; omega⟩, ⟨pV zb.out⟩, ⟨pV zc.out⟩, ⟨pR za.out⟩, ⟨qB HB⟩⟩
     rw [if_neg c27] at H
     have c27b0 : (zd == 1) = false := beq_eq_false_iff_ne.mpr c27
     have c27b1 : (zd != 1) = true := bne_iff_ne.mpr c27
     by_cases c35 : ze = 1
     rotate_left
     ·rw [if_neg c35] at H
      have c35b0 : (ze == 1) = false := beq_eq_false_iff_ne.mpr c35
      have c35b1 : (ze != 1) = true := bne_iff_ne.mpr c35
      simp only [Option.some.injEq, Prod.mk.injEq] at H
      obtain ⟨rfl, rfl⟩ := H
      go_wp2_with (first | ((with_reducible refine gate_callee (f := 70) rfl ?_); refine goesL_ (some 43) rfl rfl Try.func70 (by kernel_rfl) rfl #[.slice A0 l0.length c0, .int .i64 x11_2] rfl pA ?_; (with_reducible refine (spread_size.calls _ _ l0 x11_2 zd _ ?s1 ?s2 A17.out).mono ?_); (case s1 => exact pC (Kd.V_reads' zb.out).2.2); (case s2 => exact (Kd.V_reads' zb.out).2.1); rintro e w' ⟨rfl, ⟨nd, rfl⟩⟩; refine ⟨_, rfl, ?_⟩) | ((with_reducible refine gate_callee (f := 70) rfl ?_); refine goesL_ (some 46) rfl rfl Try.func70 (by kernel_rfl) rfl #[.slice A1 l1.length c1, .int .i64 x11_2] rfl pA ?_; (with_reducible refine (spread_size.calls _ _ l1 x11_2 ze _ ?s1 ?s2 A18.out).mono ?_); (case s1 => exact pC (Kd.V_reads' zc.out).2.2); (case s2 => exact (Kd.V_reads' zc.out).2.1); rintro e w' ⟨rfl, ⟨nd, rfl⟩⟩; refine ⟨_, rfl, ?_⟩))
      go_ret2
      exact ⟨_, by first | rfl | (simp [errW_none, errW_some] <;> rfl) | (simp only [← hji11]; first | rfl | (simp [errW_none, errW_some] <;> rfl)) | (simp [*, errW_none, errW_some] <;> rfl), pN, qB HB⟩
     rw [if_pos c35] at H
     have c35b0 : (ze == 1) = true := beq_iff_eq.mpr c35
     have c35b1 : (ze != 1) = false := bne_eq_false_iff_eq.mpr c35
     clear c35
     obtain ⟨ji36, hji36⟩ : ∃ j_ : Int, (mx zd ze) = j_ := ⟨_, rfl⟩
     replace H : (if 0 ≤ (wrap64 (ji11 - x11_2)) then (if (wrap64 (ji11 - x11_2)) < (x10_2.length : Int) then (spread_Two.l1 k2 l0 l1 ji11 (x10_2.set ((wrap64 (ji11 - x11_2)) : Int).toNat (ji36)) (wrap64 (x11_2 + 1))) else (none)) else (none)) = some (r1, r2) := by first | (rw [hji36] at H; exact H) | (simp only [hji36] at H ⊢; exact H)
     (try rw [hji36] at A17)
     (try rw [hji36] at A18)
     have hji36_ : (if zd < ze then ze else zd) = ji36 := hji36
     obtain ⟨ji37, hji37⟩ : ∃ j_ : Int, (wrap64 (ji11 - x11_2)) = j_ := ⟨_, rfl⟩
     replace H : (if 0 ≤ (ji37) then (if (ji37) < (x10_2.length : Int) then (spread_Two.l1 k2 l0 l1 ji11 (x10_2.set ((ji37) : Int).toNat (ji36)) (wrap64 (x11_2 + 1))) else (none)) else (none)) = some (r1, r2) := by first | (rw [hji37] at H; exact H) | (simp only [hji37] at H ⊢; exact H)
     (try rw [hji37] at A17)
     (try rw [hji37] at A18)
     have hji37w : (IntKind.i64.wrap (ji11 - x11_2)) = ji37 := (i64_w _).trans hji37
     by_cases c38 : 0 ≤ (ji37)
     rotate_left
     ·rw [if_neg c38] at H
      exact absurd H (by simp)
     rw [if_pos c38] at H
     have c38b0 : decide (0 ≤ (ji37)) = true := decide_eq_true c38
     clear c38
     by_cases c39 : (ji37) < (x10_2.length : Int)
     rotate_left
     ·rw [if_neg c39] at H
      exact absurd H (by simp)
     rw [if_pos c39] at H
     have c39b0 : decide ((ji37) < (x10_2.length : Int)) = true := decide_eq_true c39
     clear c39
     obtain ⟨zz, zs⟩ : ∃ y_ : List Int, y_ = (x10_2.set ((ji37) : Int).toNat (ji36)) := ⟨_, rfl⟩
     replace H : (spread_Two.l1 k2 l0 l1 ji11 zz (wrap64 (x11_2 + 1))) = some (r1, r2) := pH zs H
     have Ny429 := aM zs
     clear zs
     have H' := aM H
     clear H
     go_wp2_with (first | ((with_reducible refine gate_callee (f := 70) rfl ?_); refine goesL_ (some 43) rfl rfl Try.func70 (by kernel_rfl) rfl #[.slice A0 l0.length c0, .int .i64 x11_2] rfl pA ?_; (with_reducible refine (spread_size.calls _ _ l0 x11_2 zd _ ?s1 ?s2 A17.out).mono ?_); (case s1 => exact pC (Kd.V_reads' zb.out).2.2); (case s2 => exact (Kd.V_reads' zb.out).2.1); rintro e w' ⟨rfl, ⟨nd, rfl⟩⟩; refine ⟨_, rfl, ?_⟩; (try (rw [drewN_self wr]; generalize hq_ : World.drewN wr _ = wr; have n0_ : Aside0 (Kd.V (Kd.int .i64) 3 wr w.heap.size (fun k_ => ((P0_ k_ ∨ P1_ k_) ∨ w.heap.size ≤ k_) ∧ some k_ ≠ (zg : Value).ownBlock) (.slice A0 l0.length c0) l0) := ⟨by rw [← hq_]; exact (pV zb.out)⟩; have n1_ : Aside0 (Kd.V (Kd.int .i64) 3 wr w.heap.size (fun k_ => ((P0_ k_ ∨ P1_ k_) ∨ w.heap.size ≤ k_) ∧ some k_ ≠ (zg : Value).ownBlock) (.slice A1 l1.length c1) l1) := ⟨by rw [← hq_]; exact (pV zc.out)⟩; have n2_ : Aside0 (Kd.R (Kd.int .i64) 3 wr w.heap.size (fun k_ => (w.heap.size ≤ k_)) zg x10_2) := ⟨by rw [← hq_]; exact (pR za.out)⟩; have n3_ : Aside0 (Below w.heap.size w wr) := ⟨by rw [← hq_]; exact (qB HB)⟩; clear zb zc za HB hq_; have zb := n0_; have zc := n1_; have za := n2_; have HB := n3_; clear n0_ n1_ n2_ n3_))) | ((with_reducible refine gate_callee (f := 70) rfl ?_); refine goesL_ (some 46) rfl rfl Try.func70 (by kernel_rfl) rfl #[.slice A1 l1.length c1, .int .i64 x11_2] rfl pA ?_; (with_reducible refine (spread_size.calls _ _ l1 x11_2 ze _ ?s1 ?s2 A18.out).mono ?_); (case s1 => exact pC (Kd.V_reads' zc.out).2.2); (case s2 => exact (Kd.V_reads' zc.out).2.1); rintro e w' ⟨rfl, ⟨nd, rfl⟩⟩; refine ⟨_, rfl, ?_⟩; (try (rw [drewN_self wr]; generalize hq_ : World.drewN wr _ = wr; have n0_ : Aside0 (Kd.V (Kd.int .i64) 3 wr w.heap.size (fun k_ => ((P0_ k_ ∨ P1_ k_) ∨ w.heap.size ≤ k_) ∧ some k_ ≠ (zg : Value).ownBlock) (.slice A0 l0.length c0) l0) := ⟨by rw [← hq_]; exact (pV zb.out)⟩; have n1_ : Aside0 (Kd.V (Kd.int .i64) 3 wr w.heap.size (fun k_ => ((P0_ k_ ∨ P1_ k_) ∨ w.heap.size ≤ k_) ∧ some k_ ≠ (zg : Value).ownBlock) (.slice A1 l1.length c1) l1) := ⟨by rw [← hq_]; exact (pV zc.out)⟩; have n2_ : Aside0 (Kd.R (Kd.int .i64) 3 wr w.heap.size (fun k_ => (w.heap.size ≤ k_)) zg x10_2) := ⟨by rw [← hq_]; exact (pR za.out)⟩; have n3_ : Aside0 (Below w.heap.size w wr) := ⟨by rw [← hq_]; exact (qB HB)⟩; clear zb zc za HB hq_; have zb := n0_; have zc := n1_; have za := n2_; have HB := n3_; clear n0_ n1_ n2_ n3_)); have p40 : 0 ≤ ((ji37) : Int) := of_decide_eq_true pD; have q40 : ((ji37) : Int) < ((x10_2.length : Int) : Int) := of_decide_eq_true pD; obtain ⟨go40, zt, z9, zaa, gl40, cl40, HG40⟩ := Kd.R_form za.out (by omega); (first | cases z9 | (injection z9 with ea_ en_ ec_; (first | subst ea_ | (injection ea_ with ea_; subst ea_)); subst ec_; clear en_)); have GB40 := aM zaa; have GG40 := aM HG40; clear zaa gl40 HG40; obtain ⟨hx40_0, hf40_0⟩ := Kd.R_celln 0 za.out ((ji37) : Int) p40 q40; replace p40 := eq_true p40; replace q40 := eq_true q40; obtain ⟨hy41_, hz41_⟩ := Kd.R_celln 0 za.out ((ji37) : Int) (of_decide_eq_true pD) (of_decide_eq_true pD); have HP41 := Kd.R_putg za.out ((ji37) : Int) ji36) | ((with_reducible refine gate_store (t := 3) (p := 65) rfl ?_); refine store_event (t := 3) (p := 65) (v := ?vo_w42) (w1 := (wr.setCell ⟨go40, ((ji37) : Int).toNat, none⟩ (.int .i64 ji36))) ?hg ?ho ?hn ?hr ?_; (case ho => rfl); (case hg => rfl); (case hn => rfl); (case hr => first | (go_simp; done) | (go_simp; rfl)); intro w42 hw; have hg : wr.grownBy w42 (some go40) := (by rw [hw]; exact HP41.2); have hp_ : Kd.R (Kd.int .i64) 3 w42 w.heap.size (fun k_ => (w.heap.size ≤ k_)) (.slice (some ⟨go40, 0, none⟩) x10_2.length zt) zz := (by rw [hw, Ny429.out]; exact HP41.1); clear HP41; replace zb := aM (Kd.V_afterv (v := (.slice (some ⟨go40, 0, none⟩) x10_2.length zt)) (v1 := (.slice (some ⟨go40, 0, none⟩) x10_2.length zt)) (ok := (fun k_ => ((P0_ k_ ∨ P1_ k_) ∨ w.heap.size ≤ k_))) (pV zb.out) hg (.inl rfl)); replace zc := aM (Kd.V_afterv (v := (.slice (some ⟨go40, 0, none⟩) x10_2.length zt)) (v1 := (.slice (some ⟨go40, 0, none⟩) x10_2.length zt)) (ok := (fun k_ => ((P0_ k_ ∨ P1_ k_) ∨ w.heap.size ≤ k_))) (pV zc.out) hg (.inl rfl)); replace za := aM (hp_); replace HB := aM ((by rw [hw]; exact below_set (HB.out) GB40.out : Below w.heap.size w w42)); clear hg hw hp_))
     go_roundg k2
     case measure => have := HK1.out; have := HK2.out; omega
     case rel => exact ⟨(zz), (wrap64 (x11_2 + 1)), (pF), H', ⟨by have := HK1.out; have := HK2.out; omega⟩, ⟨pV zb.out⟩, ⟨pV zc.out⟩, ⟨pR za.out⟩, ⟨qB HB⟩⟩
end Go.Proofs.Ytjbpekblcecneaa.Q
