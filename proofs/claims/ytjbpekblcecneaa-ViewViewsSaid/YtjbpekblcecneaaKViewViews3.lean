/- Texts of the proof of ViewViews, part 3: what functions of the program compute, and that they compute it. -/
import Derived.Test.YtjbpekblcecneaaWordsMore
import Derived.Test.YtjbpekblcecneaaKViewViews2
namespace Go.Proofs.Ytjbpekblcecneaa.Q
open Go.RowKit Go.Proofs.YtjbpekblcecneaaW.PrintWords Go.Proofs.YtjbpekblcecneaaW.PrintLast Go.Proofs.YtjbpekblcecneaaW.PrintMore
attribute [local go_sem] max2_int min2_int max_two min_two max_three min_three max_four min_four   -- for this text's walks alone
set_option linter.unusedVariables false
set_option linter.unusedSimpArgs false
mutual
def gradineref22_Permute.l0 : Nat → List Int → List Int → List Int → List (List Int) → List Int → Int → Int → Option (List Int × List Int × Int)
 | 0, _, _, _, _, _, _, _ => none
 | k + 1, x0, x1, x7, x9, x10, x26, x27 => if x27 < x26 then (if 0 ≤ (x0.length : Int) then (if ((x0.length : Int) : Int).toNat ≤ 35184372088832 then (gradineref22_Permute.l1 k x0 x1 x7 x9 x10 x27 (List.replicate ((x0.length : Int) : Int).toNat 0) x26 x27 (x1.length : Int) 0) else (none)) else (none)) else (some (x7, x10, 0))
def gradineref22_Permute.l1 : Nat → List Int → List Int → List Int → List (List Int) → List Int → Int → List Int → Int → Int → Int → Int → Option (List Int × List Int × Int)
 | 0, _, _, _, _, _, _, _, _, _, _, _ => none
 | k + 1, x0, x1, x7, x9, x10, x11, x12, x26, x27, x34, x35 => if x35 < x34 then (if 0 ≤ x35 then (if x35 < (x1.length : Int) then (if 0 ≤ x11 then (if x11 < (x9.length : Int) then (if x35 < ((rd_L1 x9 x11).length : Int) then (if 0 ≤ (rd x1 x35) then (if (rd x1 x35) < (x12.length : Int) then (gradineref22_Permute.l1 k x0 x1 x7 x9 x10 x11 (x12.set ((rd x1 x35) : Int).toNat (rd (rd_L1 x9 x11) x35)) x26 x27 x34 (wrap64 (x35 + 1))) else (none)) else (none)) else (none)) else (none)) else (none)) else (none)) else (none)) else ((gradineref22_number.f k x0 x12).bind fun t561 => (if x10.length < 17592186044416 then (gradineref22_Permute.l0 k x0 x1 x7 x9 (x10 ++ [t561]) x26 (wrap64 (x27 + 1))) else (none)))
end
def gradineref22_Permute.f (k : Nat) (l0 : List Int) (l1 : List Int) : Option (List Int × List Int × Int) := (gradineref19_Perm.f k l0 l1).bind fun bt547 => (if bt547.2 = 0 then ((gradineref20_All.f k bt547.1).bind fun t551 => (gradineref22_Permute.l0 k l0 l1 bt547.1 t551 ([] : List Int) (t551.length : Int) 0)) else (some (([] : List Int), ([] : List Int), bt547.2)))
def gradineref22_Permute.T13 : Bool × List (List Nat × List Nat) := (true, [([], []), ([], []), ([], []), ([1, 2], [1, 2]), ([3], [3]), ([], []), ([], []), ([5, 6], [5, 6]), ([7], [7]), ([], []), ([8, 9], [8, 9]), ([10], [10]), ([0, 4, 0, 1, 2, 3, 4, 5, 6, 7, 8, 9, 10, 11], [0, 4]), ([12, 11, 0, 1, 2, 3, 4, 5, 6, 7, 8, 9, 10, 11], [11, 12])])
def gradineref22_Permute.B13 : List Nat := [0, 0, 0, 6, 14, 0, 0, 96, 224, 0, 992, 2016, 4095, 8191]
theorem gradineref22_Permute.tab13 : rtab .any (opsOf Try.f49 13) = gradineref22_Permute.T13 := by kernel_rfl
theorem gradineref22_Permute.bits13 : waitsOk gradineref22_Permute.T13.2 gradineref22_Permute.B13 = true := by kernel_rfl
set_option maxHeartbeats 8000000 in
set_option maxRecDepth 100000 in
theorem gradineref22_Permute.calls (k : Nat) (A0 : Option Addr) (c0 : Nat) (l0 : List Int) (A1 : Option Addr) (c1 : Nat) (l1 : List Int) (r1 : List Int) (r2 : List Int) (r3 : Int) (w : World) (hr0 : Kd.C (Kd.int .i64) w A0 l0.length l0) (hc0 : l0.length ≤ c0) (hr1 : Kd.C (Kd.int .i64) w A1 l1.length l1) (hc1 : l1.length ≤ c1) (h : gradineref22_Permute.f k l0 l1 = some (r1, r2, r3)) :
  Calls Try.prog 49 #[.slice A0 l0.length c0, .slice A1 l1.length c1] w fun e w' => ∃ v0_ v1_ : Value, e = .returned (.tuple #[v0_, v1_, .int .i64 r3]) ∧ Kd.R (Kd.int .i64) 3 w' w.heap.size (fun k_ => some k_ ≠ (v1_ : Value).ownBlock) v0_ r1 ∧ Kd.R (Kd.int .i64) 3 w' w.heap.size (fun k_ => some k_ ≠ (v0_ : Value).ownBlock) v1_ r2 ∧ Below w.heap.size w w' := by
 have HR0 := aM hr0
 have HC0 := aM hc0
 clear hr0 hc0
 have HR1 := aM hr1
 have HC1 := aM hc1
 clear hr1 hc1
 have HB := aM (Below.refl w.heap.size w)
 have H : ((gradineref19_Perm.f k l0 l1).bind fun bt547 => (if bt547.2 = 0 then ((gradineref20_All.f k bt547.1).bind fun t551 => (gradineref22_Permute.l0 k l0 l1 bt547.1 t551 ([] : List Int) (t551.length : Int) 0)) else (some (([] : List Int), ([] : List Int), bt547.2)))) = some (r1, r2, r3) := h
 clear h
 replace H := Option.bind_eq_some_iff.mp H
 obtain ⟨⟨t547, t548⟩, A30, H⟩ := H
 try dsimp only at H
 have A3 := aM A30
 clear A30
 by_cases c4 : t548 = 0
 rotate_left
 ·rw [if_neg c4] at H
  have c4b0 : (t548 == 0) = false := beq_eq_false_iff_ne.mpr c4
  have c4b1 : (t548 != 0) = true := bne_iff_ne.mpr c4
  simp only [Option.some.injEq, Prod.mk.injEq] at H
  obtain ⟨rfl, rfl, rfl⟩ := H
  go_enter Try.func49, Try.ntmps49
  go_wp2_with (first | ((with_reducible refine gate_callee (f := 58) rfl ?_); refine goesL_ (some 17) rfl rfl Try.func58 (by kernel_rfl) rfl #[.slice A0 l0.length c0, .slice A1 l1.length c1] rfl pA ?_; (with_reducible refine (gradineref19_Perm.calls k _ _ l0 _ _ l1 t547 t548 _ ?s1 ?s2 ?s3 ?s4 A3.out).mono ?_); (case s1 => exact pC HR0.out); (case s2 => exact HC0.out); (case s3 => exact pC HR1.out); (case s4 => exact HC1.out); rintro e w30 ⟨v549, rfl, ho0, hb⟩; refine ⟨_, rfl, ?_⟩; have HO550 := aM (Kd.R_lower ho0 (below_size (qB HB))); replace HB := bS (qB HB) hb; (try clear hb); (try clear hk); (try clear hi); (try clear ho0)))
  go_ret3
  exact ⟨_, _, pE, pN, pN, qB HB⟩
 rw [if_pos c4] at H
 have c4b0 : (t548 == 0) = true := beq_iff_eq.mpr c4
 have c4b1 : (t548 != 0) = false := bne_eq_false_iff_eq.mpr c4
 clear c4
 replace H := Option.bind_eq_some_iff.mp H
 obtain ⟨t551, A50, H⟩ := H
 try dsimp only at H
 have A5 := aM A50
 clear A50
 have H' := aM H
 clear H
 go_enter Try.func49, Try.ntmps49
 go_wp2_with (first | ((with_reducible refine gate_callee (f := 58) rfl ?_); refine goesL_ (some 17) rfl rfl Try.func58 (by kernel_rfl) rfl #[.slice A0 l0.length c0, .slice A1 l1.length c1] rfl pA ?_; (with_reducible refine (gradineref19_Perm.calls k _ _ l0 _ _ l1 t547 t548 _ ?s1 ?s2 ?s3 ?s4 A3.out).mono ?_); (case s1 => exact pC HR0.out); (case s2 => exact HC0.out); (case s3 => exact pC HR1.out); (case s4 => exact HC1.out); rintro e w6 ⟨v549, rfl, ho0, hb⟩; refine ⟨_, rfl, ?_⟩; have HO550 := aM (Kd.R_lower ho0 (below_size (qB HB))); replace HB := bS (qB HB) hb; (try clear hb); (try clear hk); (try clear hi); (try clear ho0); obtain ⟨Ao7, co7, eo7⟩ := Kd.R_slice HO550.out; subst eo7) | ((with_reducible refine gate_callee (f := 38) rfl ?_); refine goesL_ (some 24) rfl rfl Try.func38 (by kernel_rfl) rfl #[.slice Ao7 t547.length co7] rfl pA ?_; (with_reducible refine (gradineref20_All.calls k _ _ t547 t551 _ ?s1 ?s2 A5.out).mono ?_); (case s1 => exact sR HO550); (case s2 => exact sL HO550); rintro e w8 ⟨v552, rfl, ho0, hb⟩; refine ⟨_, rfl, ?_⟩; have HO553 := aM (Kd.N_lower (Kd.N_mono (ok' := fun k_ => some k_ ≠ (.slice Ao7 t547.length co7 : Value).ownBlock) ho0 (fun k_ hk_ => (Kd.fresh' (Kd.R_lt (pR HO550.out)) k_ hk_))) (below_size (qB HB))); replace HO550 := bR HO550 hb; replace HB := bS (qB HB) hb; (try clear hb); (try clear hk); (try clear hi); (try clear ho0); obtain ⟨Ao9, co9, eo9⟩ := Kd.N_slice HO553.out; subst eo9))
 go_loopg [10, 27] k (fun kq v10 v27 w' => ∃ (x7_1 : List Int) (x10_1 : List Int) (x27_1 : Int), v27 = .int .i64 x27_1 ∧ Aside0 (gradineref22_Permute.l0 kq l0 l1 x7_1 t551 x10_1 (t551.length : Int) x27_1 = some (r1, r2, r3)) ∧ Aside0 (kq ≤ k) ∧ Aside0 (Kd.R (Kd.int .i64) 3 w' w.heap.size (fun k_ => some k_ ≠ (v10 : Value).ownBlock) (.slice Ao7 t547.length co7) x7_1) ∧ Aside0 (Kd.N (Kd.slice 3 (Kd.int .i64)) 22 w' w.heap.size (fun k_ => some k_ ≠ ((.slice Ao7 t547.length co7) : Value).ownBlock ∧ some k_ ≠ (v10 : Value).ownBlock) (.slice Ao9 t551.length co9) t551) ∧ Aside0 (Kd.R (Kd.int .i64) 3 w' w.heap.size (fun k_ => some k_ ≠ ((.slice Ao7 t547.length co7) : Value).ownBlock) v10 x10_1) ∧ Aside0 (Below w.heap.size w w'))
 case atStart => exact ⟨(t547), (([] : List Int)), (0), (pF), H', ⟨Nat.le_refl _⟩, ⟨by (with_reducible repeat (first | apply rA | apply rN | apply rD)); exact Kd.R_mono HO550.out (fun _ hk => (by simp [Value.ownBlock]))⟩, ⟨by (with_reducible repeat (first | apply Kd.N_alloc | apply Kd.N_drewN | apply Kd.N_drew)); exact Kd.N_mono HO553.out (fun _ hk => ⟨hk, (by simp [Value.ownBlock])⟩)⟩, ⟨pN⟩, ⟨qB HB⟩⟩
 case round =>
  clear H'
  try clear c1
  try clear c4b0
  try clear c4b1
  obtain ⟨x7_1, x10_1, x27_1, rfl, HA, HK1, HO_7, HO_9, HO_10, HB⟩ := hrel
  have hl7_1 := (Kd.R_reads' HO_7.out).1
  rw [hl7_1] at HO_7
  (try simp only [hl7_1])
  (try simp only [hl7_1] at HO_9)
  (try simp only [hl7_1] at HO_10)
  cases gk with
  | zero => exact absurd HA.out (by simp [gradineref22_Permute.l0])
  | succ k1 =>
   have H := HA.out
   clear HA
   simp only [gradineref22_Permute.l0] at H
   by_cases c10 : x27_1 < (t551.length : Int)
   rotate_left
   ·rw [if_neg c10] at H
    have c10b0 : decide (x27_1 < (t551.length : Int)) = false := decide_eq_false c10
    (try simp only [hl7_1] at c10b0)
    clear c10
    simp only [Option.some.injEq, Prod.mk.injEq] at H
    obtain ⟨rfl, rfl, rfl⟩ := H
    go_wp2
    go_ret3
    exact ⟨_, _, pE, pR HO_7.out, pR HO_10.out, qB HB⟩
   rw [if_pos c10] at H
   have c10b0 : decide (x27_1 < (t551.length : Int)) = true := decide_eq_true c10
   (try simp only [hl7_1] at c10b0)
   clear c10
   by_cases c11 : 0 ≤ (l0.length : Int)
   rotate_left
   ·rw [if_neg c11] at H
    exact absurd H (by simp)
   rw [if_pos c11] at H
   have c11b0 := eq_true c11
   have c11b1 : decide (0 ≤ (l0.length : Int)) = true := decide_eq_true c11
   (try simp only [hl7_1] at c11b1)
   clear c11
   by_cases c12 : ((l0.length : Int) : Int).toNat ≤ 35184372088832
   rotate_left
   ·rw [if_neg c12] at H
    exact absurd H (by simp)
   rw [if_pos c12] at H
   have c12b0 := eq_true c12
   have c12b1 : decide (((l0.length : Int) : Int).toNat ≤ 35184372088832) = true := decide_eq_true c12
   (try simp only [hl7_1] at c12b1)
   clear c12
   obtain ⟨y554, hy554⟩ : ∃ y_ : List Int, y_ = (List.replicate ((l0.length : Int) : Int).toNat 0) := ⟨_, rfl⟩
   replace H : (gradineref22_Permute.l1 k1 l0 l1 x7_1 t551 x10_1 x27_1 y554 (t551.length : Int) x27_1 (l1.length : Int) 0) = some (r1, r2, r3) := pH hy554 H
   have Ny554 := aM hy554
   clear hy554
   have H' := aM H
   clear H
   go_wp2_with (first | ((with_reducible refine gate_dst (N := 32) rfl ?_); refine Kd.R_make (Kd.int .i64) _ 3 rfl (N := 32) rfl 22 _ _ rfl (l0.length : Int) rfl rfl Try.underlying22 (.int .i64 0) 8 info3 rfl (by decide) (by omega) 0 (ok := fun _ => True) (okp := fun _ => True) rfl (fun _ hk => hk) trivial (of_decide_eq_true pD) (Nat.le_trans (Nat.mul_le_mul_right _ (of_decide_eq_true pD : (l0.length : Int).toNat ≤ 35184372088832)) (by omega)) (Below.refl _ _) (Nat.le_refl _) ?_; intro v555 w13 ho14 hb hg_ hnew_; clear hg_ hnew_; (first | rw [← Ny554.out] at ho14 | (simp only [Int.reduceToNat] at ho14; rw [← Ny554.out] at ho14)); replace HO_9 := aM (Kd.N_elder' (by (with_reducible repeat (first | apply Kd.N_alloc | apply Kd.N_drewN | apply Kd.N_drew)); exact HO_9.out) (Kd.R_base ho14) hb); have HO556 := aM (Kd.R_lower (Kd.R_new' (Kd.R_new' ho14 (Kd.R_lt (pR HO_7.out))) (Kd.R_lt (pR HO_10.out))) (below_size (qB HB))); replace HO_7 := eR HO_7 ho14 hb; replace HO_10 := eR HO_10 ho14 hb; replace HB := bS (qB HB) hb; clear hb ho14))
   go_loopg [35] k1 (fun kq v35 w' => ∃ (x12_2 : List Int) (x35_2 : Int), v35 = .int .i64 x35_2 ∧ Aside0 (gradineref22_Permute.l1 kq l0 l1 x7_1 t551 x10_1 x27_1 x12_2 (t551.length : Int) x27_1 (l1.length : Int) x35_2 = some (r1, r2, r3)) ∧ Aside0 (kq ≤ k1) ∧ Aside0 (Kd.R (Kd.int .i64) 3 w' w.heap.size (fun k_ => some k_ ≠ (u10 : Value).ownBlock ∧ some k_ ≠ (v555 : Value).ownBlock) (.slice Ao7 x7_1.length co7) x7_1) ∧ Aside0 (Kd.N (Kd.slice 3 (Kd.int .i64)) 22 w' w.heap.size (fun k_ => some k_ ≠ ((.slice Ao7 x7_1.length co7) : Value).ownBlock ∧ some k_ ≠ (u10 : Value).ownBlock ∧ some k_ ≠ (v555 : Value).ownBlock) (.slice Ao9 t551.length co9) t551) ∧ Aside0 (Kd.R (Kd.int .i64) 3 w' w.heap.size (fun k_ => some k_ ≠ ((.slice Ao7 x7_1.length co7) : Value).ownBlock ∧ some k_ ≠ (v555 : Value).ownBlock) u10 x10_1) ∧ Aside0 (Kd.R (Kd.int .i64) 3 w' w.heap.size (fun k_ => some k_ ≠ ((.slice Ao7 x7_1.length co7) : Value).ownBlock ∧ some k_ ≠ (u10 : Value).ownBlock) v555 x12_2) ∧ Aside0 (Below w.heap.size w w'))
   case atStart => exact ⟨(y554), (0), (pF), H', ⟨Nat.le_refl _⟩, ⟨by (try simp only [hl7_1]); (with_reducible repeat (first | apply rA | apply rN | apply rD)); exact HO_7.out⟩, ⟨by (try simp only [hl7_1]); (with_reducible repeat (first | apply Kd.N_alloc | apply Kd.N_drewN | apply Kd.N_drew)); exact Kd.N_mono HO_9.out (fun _ hk => ⟨hk.1.1, ⟨hk.1.2, hk.2⟩⟩)⟩, ⟨by (try simp only [hl7_1]); (with_reducible repeat (first | apply rA | apply rN | apply rD)); exact HO_10.out⟩, ⟨by (try simp only [hl7_1]); (with_reducible repeat (first | apply rA | apply rN | apply rD)); exact Kd.R_mono HO556.out (fun _ hk => ⟨hk.1.2, hk.2⟩)⟩, ⟨qB HB⟩⟩
   case round =>
    clear H'
    try clear c10b0
    try clear c11b0
    try clear c11b1
    try clear c12b0
    try clear c12b1
    obtain ⟨x12_2, x35_2, rfl, HA, HK2, HO_7, HO_9, HO_10, HO_12, HB⟩ := hrel
    cases gk with
    | zero => exact absurd HA.out (by simp [gradineref22_Permute.l1])
    | succ k2 =>
     have H := HA.out
     clear HA
     simp only [gradineref22_Permute.l1] at H
     by_cases c15 : x35_2 < (l1.length : Int)
     rotate_left
     ·rw [if_neg c15] at H
      have c15b0 : decide (x35_2 < (l1.length : Int)) = false := decide_eq_false c15
      (try simp only [hl7_1] at c15b0)
      clear c15
      replace H := Option.bind_eq_some_iff.mp H
      obtain ⟨t561, A260, H⟩ := H
      try dsimp only at H
      have A26 := aM A260
      clear A260
      by_cases c27 : x10_1.length < 17592186044416
      rotate_left
      ·rw [if_neg c27] at H
       exact absurd H (by simp)
      rw [if_pos c27] at H
      have LMc27 := aM c27
      clear c27
      obtain ⟨y562, hy562⟩ : ∃ y_ : List Int, y_ = (x10_1 ++ [t561]) := ⟨_, rfl⟩
      replace H : (gradineref22_Permute.l0 k2 l0 l1 x7_1 t551 y562 (t551.length : Int) (wrap64 (x27_1 + 1))) = some (r1, r2, r3) := pH hy562 H
      have Ny562 := aM hy562
      clear hy562
      have H' := aM H
      clear H
      obtain ⟨Ao28, co28, eo28⟩ := Kd.R_slice HO_12.out
      subst eo28
      go_wp2_with (first | ((with_reducible refine gate_callee (f := 59) rfl ?_); refine goesL_ (some 55) rfl rfl Try.func59 (by kernel_rfl) rfl #[.slice A0 l0.length c0, .slice Ao28 x12_2.length co28] rfl pA ?_; (with_reducible refine (gradineref22_number.calls k2 _ _ l0 _ _ x12_2 t561 _ ?s1 ?s2 ?s3 ?s4 A26.out).mono ?_); (case s1 => exact sC HR0 HB); (case s2 => exact HC0.out); (case s3 => exact sR HO_12); (case s4 => exact sL HO_12); rintro e w' ⟨rfl, ⟨nd, rfl⟩⟩; refine ⟨_, rfl, ?_⟩) | ((with_reducible refine gate_builtin (b := .append) (xs := #[.tmp 52, .tmp 56]) rfl ?_); at_builtin; refine Kd.R_append (Kd.int .i64) (w0 := w) w.heap.size rfl (.tmp 52) (.tmp 56) 22 3 (.int .i64 0) 8 rfl Try.underlying22 info3 rfl (by decide) (by omega) u10 x10_1 t561 [.int .i64 t561] (fun k_ => some k_ ≠ (.slice Ao7 x7_1.length co7 : Value).ownBlock ∧ some k_ ≠ (.slice Ao28 x12_2.length co28 : Value).ownBlock) (fun _ => False) rfl rfl ?aP (fun _ hk => hk.elim) ?aF ?aO ?aB ?aS ?aL ?_; (case aP => exact rfl); (case aB => exact (qB HB)); (case aF => exact (fun k_ hk => ⟨Kd.fresh' (Kd.R_lt (pR HO_7.out)) k_ hk, Kd.fresh' (Kd.R_lt (pR HO_12.out)) k_ hk⟩)); (case aO => exact (pR HO_10.out)); (case aS => exact (below_size (qB HB))); (case aL => have := LMc27.out; omega); intro v563 w29 ho hb hg hat; rw [← Ny562.out] at ho; replace HO_7 := aM (Kd.R_after (ok := (fun k_ => some k_ ≠ (.slice Ao28 x12_2.length co28 : Value).ownBlock)) (by (with_reducible repeat (first | apply rA | apply rN | apply rD)); exact Kd.R_mono HO_7.out (fun _ hk => ⟨hk.2, hk.1⟩)) hg hat); replace HO_9 := aM (Kd.N_afterv (ok := (fun k_ => some k_ ≠ (.slice Ao7 x7_1.length co7 : Value).ownBlock ∧ some k_ ≠ (.slice Ao28 x12_2.length co28 : Value).ownBlock)) (by (with_reducible repeat (first | apply Kd.N_alloc | apply Kd.N_drewN | apply Kd.N_drew)); exact Kd.N_mono HO_9.out (fun _ hk => ⟨⟨hk.1, hk.2.2⟩, hk.2.1⟩)) hg hat); replace HO_12 := aM (Kd.R_after (ok := (fun k_ => some k_ ≠ (.slice Ao7 x7_1.length co7 : Value).ownBlock)) (pR HO_12.out) hg hat); replace HB := aM (hb); have HO564 := aM (ho); clear HO_10; clear ho hb hg hat))
      (try simp only [← hl7_1])
      go_roundg k2
      case measure => have := HK1.out; have := HK2.out; omega
      case rel => exact ⟨(x7_1), (y562), (wrap64 (x27_1 + 1)), (pF), H', ⟨by have := HK1.out; have := HK2.out; omega⟩, ⟨by (try simp only [hl7_1]); (with_reducible repeat (first | apply rA | apply rN | apply rD)); exact Kd.R_mono HO_7.out (fun _ hk => hk.2)⟩, ⟨by (try simp only [hl7_1]); (with_reducible repeat (first | apply Kd.N_alloc | apply Kd.N_drewN | apply Kd.N_drew)); exact Kd.N_mono HO_9.out (fun _ hk => ⟨hk.1.1, hk.2⟩)⟩, ⟨by (try simp only [hl7_1]); (with_reducible repeat (first | apply rA | apply rN | apply rD)); exact Kd.R_mono HO564.out (fun _ hk => hk.1)⟩, ⟨qB HB⟩⟩
     rw [if_pos c15] at H
     have c15b0 : decide (x35_2 < (l1.length : Int)) = true := decide_eq_true c15
     (try simp only [hl7_1] at c15b0)
     clear c15
     by_cases c16 : 0 ≤ x35_2
     rotate_left
     ·rw [if_neg c16] at H
      exact absurd H (by simp)
     rw [if_pos c16] at H
     have c16b0 : decide (0 ≤ x35_2) = true := decide_eq_true c16
     clear c16
     by_cases c17 : x35_2 < (l1.length : Int)
     rotate_left
     ·rw [if_neg c17] at H
      exact absurd H (by simp)
     rw [if_pos c17] at H
     have c17b0 : decide (x35_2 < (l1.length : Int)) = true := decide_eq_true c17
     (try simp only [hl7_1] at c17b0)
     clear c17
     by_cases c18 : 0 ≤ x27_1
     rotate_left
     ·rw [if_neg c18] at H
      exact absurd H (by simp)
     rw [if_pos c18] at H
     have c18b0 : decide (0 ≤ x27_1) = true := decide_eq_true c18
     clear c18
     by_cases c19 : x27_1 < (t551.length : Int)
     rotate_left
     ·rw [if_neg c19] at H
      exact absurd H (by simp)
     rw [if_pos c19] at H
     have c19b0 : decide (x27_1 < (t551.length : Int)) = true := decide_eq_true c19
     (try simp only [hl7_1] at c19b0)
     clear c19
     by_cases c20 : x35_2 < ((rd_L1 t551 x27_1).length : Int)
     rotate_left
     ·rw [if_neg c20] at H
      exact absurd H (by simp)
     rw [if_pos c20] at H
     have c20b0 : decide (x35_2 < ((rd_L1 t551 x27_1).length : Int)) = true := decide_eq_true c20
     (try simp only [hl7_1] at c20b0)
     clear c20
     by_cases c21 : 0 ≤ (rd l1 x35_2)
     rotate_left
     ·rw [if_neg c21] at H
      exact absurd H (by simp)
     rw [if_pos c21] at H
     have c21b0 : decide (0 ≤ (rd l1 x35_2)) = true := decide_eq_true c21
     clear c21
     by_cases c22 : (rd l1 x35_2) < (x12_2.length : Int)
     rotate_left
     ·rw [if_neg c22] at H
      exact absurd H (by simp)
     rw [if_pos c22] at H
     have c22b0 : decide ((rd l1 x35_2) < (x12_2.length : Int)) = true := decide_eq_true c22
     (try simp only [hl7_1] at c22b0)
     clear c22
     obtain ⟨y560, hy560⟩ : ∃ y_ : List Int, y_ = (x12_2.set ((rd l1 x35_2) : Int).toNat (rd (rd_L1 t551 x27_1) x35_2)) := ⟨_, rfl⟩
     replace H : (gradineref22_Permute.l1 k2 l0 l1 x7_1 t551 x10_1 x27_1 y560 (t551.length : Int) x27_1 (l1.length : Int) (wrap64 (x35_2 + 1))) = some (r1, r2, r3) := pH hy560 H
     have Ny560 := aM hy560
     clear hy560
     have H' := aM H
     clear H
     try go_wp2
     replace HO_7 := aM (Kd.R_drew HO_7.out)
     replace HO_9 := aM (Kd.N_drew HO_9.out)
     replace HO_10 := aM (Kd.R_drew HO_10.out)
     replace HO_12 := aM (Kd.R_drew HO_12.out)
     replace HB := aM (below_drew1 HB.out)
     have p557 : 0 ≤ (x35_2 : Int) := of_decide_eq_true pD
     have q557 : x35_2 < (l1.length : Int) := of_decide_eq_true pD
     obtain ⟨ad557, e557, hx557_0⟩ := Kd.at_int HR1.out x35_2 p557 q557
     have hw557_0 := hx557_0
     cases e557
     replace hx557_0 := (HB.out.cell (World.block_lt_of_cell? w _ hx557_0)).trans hx557_0
     replace p557 := eq_true p557
     replace q557 := eq_true q557
     have p558 : 0 ≤ (x27_1 : Int) := of_decide_eq_true pD
     have q558 : x27_1 < (t551.length : Int) := of_decide_eq_true pD
     obtain ⟨ad558, A558_0, c558_0, e558, hx558_0, hl558_0, hi558_0⟩ := at_L1 (Kd.N_reads' HO_9.out).2.2 x27_1 p558 q558
     cases e558
     obtain ⟨ce558, hce558, hMe558, hcc558⟩ := Kd.N_get HO_9.out [] x27_1 p558 (by first | exact q558 | exact of_decide_eq_true pD | (have e_ := (Kd.N_reads' HO_9.out).1; omega))
     obtain ⟨ua558_0, uc558_0, rfl, ul558_0, ge558_0⟩ := Kd.FK_slice_open hMe558
     have hv558_0 := hcc558 0 _ rfl
     rw [Nat.add_zero, show ((Kd.slice 3 (Kd.int .i64))).sz = 1 from rfl, Nat.mul_one] at hv558_0
     replace hv558_0 := Option.some.inj (hv558_0.symm.trans hx558_0)
     injection hv558_0 with hva_ hvn_ hvc_
     rw [hva_] at ge558_0
     rw [hvc_] at ul558_0
     have HL558_0 := aM (show Kd.V (Kd.int .i64) 3 _ w.heap.size _ _ (rd_L1 t551 x27_1) from Kd.V_mk ul558_0 ge558_0)
     clear hva_ hvn_ hvc_ ge558_0 ul558_0
     clear hcc558 hce558
     have HR558_0 := aM hi558_0
     have HC558_0 := aM hl558_0
     clear hi558_0 hl558_0
     replace p558 := eq_true p558
     replace q558 := eq_true q558
     have p559 : 0 ≤ (x35_2 : Int) := of_decide_eq_true pD
     have q559 : x35_2 < ((rd_L1 t551 x27_1).length : Int) := of_decide_eq_true pD
     obtain ⟨ad559, e559, hx559_0⟩ := Kd.at_int (by repeat (first | (with_reducible exact HR558_0.out) | (with_reducible refine Kd.C_alloc ?_ _) | (with_reducible refine Kd.C_drewN ?_ _) | (with_reducible refine Kd.C_drew ?_) | exact HR558_0.out)) x35_2 p559 q559
     cases e559
     replace p559 := eq_true p559
     replace q559 := eq_true q559
     have p23 : 0 ≤ ((rd l1 x35_2) : Int) := of_decide_eq_true pD
     have q23 : ((rd l1 x35_2) : Int) < ((x12_2.length : Int) : Int) := of_decide_eq_true pD
     obtain ⟨go23, co23, eo23, gb23, gl23, cl23, HG23⟩ := Kd.R_form HO_12.out (by omega)
     (first | cases eo23 | (injection eo23 with ea_ en_ ec_; (first | subst ea_ | (injection ea_ with ea_; subst ea_)); subst ec_; clear en_))
     have GB23 := aM gb23
     have GG23 := aM HG23
     clear gb23 gl23 HG23
     obtain ⟨hx23_0, hf23_0⟩ := Kd.R_celln 0 HO_12.out ((rd l1 x35_2) : Int) p23 q23
     replace p23 := eq_true p23
     replace q23 := eq_true q23
     have HP25 := Kd.R_putn HO_12.out ((rd l1 x35_2) : Int) (rd (rd_L1 t551 x27_1) x35_2)
     rw [← Ny560.out] at HP25
     have HQ25 := aM HP25
     clear HP25
     refine start_ (n := 14) (S := fun w' => w'.cell? (ad557.add (x35_2).toNat) = some (.int .i64 (rd l1 x35_2)) ∧ w'.cell? (ad558.add (x27_1).toNat) = some (.slice (some ad559) (rd_L1 t551 x27_1).length c558_0) ∧ w'.cell? (ad559.add (x35_2).toNat) = some (.int .i64 (rd (rd_L1 t551 x27_1) x35_2))) (ds := [13]) #[false, false, false, false, false, false, false, false, false, false, false, false, false, false] (by kernel_rfl) rfl rfl ⟨((HB.out.cell (World.block_lt_of_cell? w _ hw557_0)).trans hw557_0), hx558_0, hx559_0⟩ (fun hHeld => ?_); refine with_tabW gradineref22_Permute.tab13 gradineref22_Permute.bits13 (fun HT_ HW_ => ?_)
     generalize wr.drew = w24 at HO_7 HO_9 HO_10 HO_12 HB GG23 HL558_0 HQ25 HR558_0 hf23_0 hx23_0 hx557_0 hx558_0 hx559_0 hHeld ⊢
     refine pP (i := 0) (N := some 38) #[true, false, false, false, false, false, false, false, false, false, false, false, false, false] rfl rfl HT_.out ?_
     refine pP (i := 1) (N := some 39) #[true, true, false, false, false, false, false, false, false, false, false, false, false, false] rfl rfl HT_.out ?_
     refine pP (i := 2) (N := some 40) #[true, true, true, false, false, false, false, false, false, false, false, false, false, false] rfl rfl HT_.out ?_
     refine pP (i := 3) (N := some 41) #[true, true, true, true, false, false, false, false, false, false, false, false, false, false] rfl rfl HT_.out ?_
     refine pP (i := 5) (N := some 43) #[true, true, true, true, false, true, false, false, false, false, false, false, false, false] rfl rfl HT_.out ?_
     refine pP (i := 6) (N := some 44) #[true, true, true, true, false, true, true, false, false, false, false, false, false, false] rfl rfl HT_.out ?_
     refine pP (i := 7) (N := some 45) #[true, true, true, true, false, true, true, true, false, false, false, false, false, false] rfl rfl HT_.out ?_
     refine pP (i := 9) (N := some 47) #[true, true, true, true, false, true, true, true, false, true, false, false, false, false] rfl rfl HT_.out ?_
     refine pT (i := 4) (N := some 42) #[true, true, true, true, true, true, true, true, false, true, false, false, false, false] rfl rfl HT_.out HW_.out hHeld (by rintro w' ⟨s0, s1, s2⟩; go_simp; with_reducible rfl) ?_
     refine pT (i := 8) (N := some 46) #[true, true, true, true, true, true, true, true, true, true, false, false, false, false] rfl rfl HT_.out HW_.out hHeld (by rintro w' ⟨s0, s1, s2⟩; go_simp; with_reducible rfl) ?_
     refine pP (i := 10) (N := some 48) #[true, true, true, true, true, true, true, true, true, true, true, false, false, false] rfl rfl HT_.out ?_
     refine pT (i := 11) (N := some 49) #[true, true, true, true, true, true, true, true, true, true, true, true, false, false] rfl rfl HT_.out HW_.out hHeld (by rintro w' ⟨s0, s1, s2⟩; go_simp; with_reducible rfl) ?_
     refine pP (i := 12) (N := some 50) #[true, true, true, true, true, true, true, true, true, true, true, true, true, false] rfl rfl HT_.out ?_
     refine last_ (i := 13) (N := none) #[true, true, true, true, true, true, true, true, true, true, true, true, true, true] rfl rfl (one_of HT_.out (by kernel_rfl)) (by decide) (fun K hK => ?_)
     refine skip_ (w1 := ?_) (by rfl) rfl ?_ ?_
     rotate_left
     ·go_simp
      rfl
     refine hK.out _ _ ?_
     clear hK K
     refine done_ (done_of HT_.out (by kernel_rfl)) ?_
     try go_wp2
     go_roundg k2
     case measure => have := HK1.out; have := HK2.out; omega
     case rel => exact ⟨(y560), (wrap64 (x35_2 + 1)), (pF), H', ⟨by have := HK1.out; have := HK2.out; omega⟩, ⟨by (try simp only [hl7_1]); (with_reducible repeat (first | apply rA | apply rN | apply rD)); exact Kd.R_mono (Kd.R_far (p := ⟨go23, ((rd l1 x35_2) : Int).toNat, none⟩) (Kd.R_mono HO_7.out (fun k_ hk => (⟨hk, fun e_ => hk.2 (by rw [e_]; rfl)⟩ : _ ∧ k_ ≠ go23))) (fun _ hk => hk.2) (.int .i64 (rd (rd_L1 t551 x27_1) x35_2))) (fun _ hk => ⟨hk.1.1, hk.1.2⟩)⟩, ⟨by (try simp only [hl7_1]); (with_reducible repeat (first | apply Kd.N_alloc | apply Kd.N_drewN | apply Kd.N_drew)); exact Kd.N_mono (Kd.N_far (p := ⟨go23, ((rd l1 x35_2) : Int).toNat, none⟩) (Kd.N_mono HO_9.out (fun k_ hk => (⟨hk, fun e_ => hk.2.2 (by rw [e_]; rfl)⟩ : _ ∧ k_ ≠ go23))) (fun _ hk => hk.2) (.int .i64 (rd (rd_L1 t551 x27_1) x35_2))) (fun _ hk => ⟨hk.1.1, ⟨hk.1.2.1, hk.1.2.2⟩⟩)⟩, ⟨by (try simp only [hl7_1]); (with_reducible repeat (first | apply rA | apply rN | apply rD)); exact Kd.R_mono (Kd.R_far (p := ⟨go23, ((rd l1 x35_2) : Int).toNat, none⟩) (Kd.R_mono HO_10.out (fun k_ hk => (⟨hk, fun e_ => hk.2 (by rw [e_]; rfl)⟩ : _ ∧ k_ ≠ go23))) (fun _ hk => hk.2) (.int .i64 (rd (rd_L1 t551 x27_1) x35_2))) (fun _ hk => ⟨hk.1.1, hk.1.2⟩)⟩, ⟨by (try simp only [hl7_1]); (with_reducible repeat (first | apply rA | apply rN | apply rD)); exact HQ25.out⟩, ⟨qB1 HB GB23⟩⟩
def gradineref19_Count.l0 : Nat → List Int → Int → Int → Int → Option (Int)
 | 0, _, _, _, _ => none
 | k + 1, x0, x3, x9, x10 => if x10 < x9 then (if 0 ≤ x10 then (if x10 < (x0.length : Int) then (gradineref19_Count.l0 k x0 (wrap64 (x3 * (rd x0 x10))) x9 (wrap64 (x10 + 1))) else (none)) else (none)) else (some x3)
def gradineref19_Count.f (k : Nat) (l0 : List Int) : Option (Int) := (gradineref19_Check.f k l0).bind fun t288 => (if t288 = 0 then (gradineref19_Count.l0 k l0 1 (l0.length : Int) 0) else (some 0))
set_option maxHeartbeats 8000000 in
set_option maxRecDepth 100000 in
theorem gradineref19_Count.calls (k : Nat) (A0 : Option Addr) (c0 : Nat) (l0 : List Int) (r : Int) (w : World) (hr0 : Kd.C (Kd.int .i64) w A0 l0.length l0) (hc0 : l0.length ≤ c0) (h : gradineref19_Count.f k l0 = some r) :
  Calls Try.prog 16 #[.slice A0 l0.length c0] w fun e w' => e = .returned (.int .i64 r) ∧ Drawn0 w w' := by
 have HR0 := aM hr0
 have HC0 := aM hc0
 clear hr0 hc0
 have H : ((gradineref19_Check.f k l0).bind fun t288 => (if t288 = 0 then (gradineref19_Count.l0 k l0 1 (l0.length : Int) 0) else (some 0))) = some r := h
 clear h
 replace H := Option.bind_eq_some_iff.mp H
 obtain ⟨t288, A20, H⟩ := H
 try dsimp only at H
 have A2 := aM A20
 clear A20
 by_cases c3 : t288 = 0
 rotate_left
 ·rw [if_neg c3] at H
  have c3b0 : (t288 == 0) = false := beq_eq_false_iff_ne.mpr c3
  have c3b1 : (t288 != 0) = true := bne_iff_ne.mpr c3
  obtain rfl := Option.some.inj H
  go_enter Try.func16, Try.ntmps16
  go_wp2_with (first | ((with_reducible refine gate_callee (f := 15) rfl ?_); refine goesL_ (some 6) rfl rfl Try.func15 (by kernel_rfl) rfl #[.slice A0 l0.length c0] rfl pA ?_; (with_reducible refine (gradineref19_Check.calls k _ _ l0 t288 _ ?s1 ?s2 A2.out).mono ?_); (case s1 => exact pC HR0.out); (case s2 => exact HC0.out); rintro e w' ⟨rfl, ⟨nd, rfl⟩⟩; refine ⟨_, rfl, ?_⟩))
  go_ret
  exact ⟨pF, by repeat (first | exact Drawn0.refl _ | apply Drawn0.step)⟩
 rw [if_pos c3] at H
 have c3b0 : (t288 == 0) = true := beq_iff_eq.mpr c3
 have c3b1 : (t288 != 0) = false := bne_eq_false_iff_eq.mpr c3
 clear c3
 have H' := aM H
 clear H
 go_enter Try.func16, Try.ntmps16
 go_wp2_with (first | ((with_reducible refine gate_callee (f := 15) rfl ?_); refine goesL_ (some 6) rfl rfl Try.func15 (by kernel_rfl) rfl #[.slice A0 l0.length c0] rfl pA ?_; (with_reducible refine (gradineref19_Check.calls k _ _ l0 t288 _ ?s1 ?s2 A2.out).mono ?_); (case s1 => exact pC HR0.out); (case s2 => exact HC0.out); rintro e w' ⟨rfl, ⟨nd, rfl⟩⟩; refine ⟨_, rfl, ?_⟩))
 go_loopg [3, 10] k (fun kq v3 v10 w' => ∃ (x3_1 : Int) (x10_1 : Int), v3 = .int .i64 x3_1 ∧ v10 = .int .i64 x10_1 ∧ Aside0 (gradineref19_Count.l0 kq l0 x3_1 (l0.length : Int) x10_1 = some r) ∧ Aside0 (kq ≤ k) ∧ Drawn0 w w')
 case atStart => exact ⟨(1), (0), (pF), (pF), H', ⟨Nat.le_refl _⟩, by repeat (first | exact Drawn0.refl _ | apply Drawn0.step)⟩
 case round =>
  clear H'
  try clear c3b0
  try clear c3b1
  obtain ⟨x3_1, x10_1, rfl, rfl, HA, HK1, ⟨m1, rfl⟩⟩ := hrel
  cases gk with
  | zero => exact absurd HA.out (by simp [gradineref19_Count.l0])
  | succ k1 =>
   have H := HA.out
   clear HA
   simp only [gradineref19_Count.l0] at H
   by_cases c4 : x10_1 < (l0.length : Int)
   rotate_left
   ·rw [if_neg c4] at H
    have c4b0 : decide (x10_1 < (l0.length : Int)) = false := decide_eq_false c4
    clear c4
    obtain rfl := Option.some.inj H
    go_wp2
    go_ret
    exact ⟨pF, by repeat (first | exact Drawn0.refl _ | apply Drawn0.step)⟩
   rw [if_pos c4] at H
   have c4b0 : decide (x10_1 < (l0.length : Int)) = true := decide_eq_true c4
   clear c4
   by_cases c5 : 0 ≤ x10_1
   rotate_left
   ·rw [if_neg c5] at H
    exact absurd H (by simp)
   rw [if_pos c5] at H
   have c5b0 : decide (0 ≤ x10_1) = true := decide_eq_true c5
   clear c5
   by_cases c6 : x10_1 < (l0.length : Int)
   rotate_left
   ·rw [if_neg c6] at H
    exact absurd H (by simp)
   rw [if_pos c6] at H
   have c6b0 : decide (x10_1 < (l0.length : Int)) = true := decide_eq_true c6
   clear c6
   have H' := aM H
   clear H
   have p289 : 0 ≤ (x10_1 : Int) := of_decide_eq_true pD
   have q289 : x10_1 < (l0.length : Int) := of_decide_eq_true pD
   obtain ⟨ad289, e289, hx289_0⟩ := Kd.at_int HR0.out x10_1 p289 q289
   cases e289
   replace p289 := eq_true p289
   replace q289 := eq_true q289
   go_wp2
   go_roundg k1
   case measure => have := HK1.out; omega
   case rel => exact ⟨(wrap64 (x3_1 * (rd l0 x10_1))), (wrap64 (x10_1 + 1)), (pF), (pF), H', ⟨by have := HK1.out; omega⟩, by repeat (first | exact Drawn0.refl _ | apply Drawn0.step)⟩
def gradineref22_Reshape.l0 : Nat → List Int → List Int → Int → Int → Option (List Int × List Int × Int)
 | 0, _, _, _, _ => none
 | k + 1, x1, x8, x21, x22 => if x22 < x21 then (if x8.length < 17592186044416 then (gradineref22_Reshape.l0 k x1 (x8 ++ [x22]) x21 (wrap64 (x22 + 1))) else (none)) else ((some (([] : List Int) : List Int)).bind fun y516 => (if y516.length + x1.length < 17592186044416 then (some ((y516 ++ x1), x8, 0)) else (none)))
def gradineref22_Reshape.f (k : Nat) (l0 : List Int) (l1 : List Int) : Option (List Int × List Int × Int) := (gradineref19_Check.f k l1).bind fun t509 => (if t509 = 0 then ((gradineref19_Count.f k l1).bind fun t510 => ((gradineref19_Count.f k l0).bind fun t511 => (if t510 = t511 then ((gradineref19_Count.f k l0).bind fun t512 => (gradineref22_Reshape.l0 k l1 ([] : List Int) t512 0)) else (some (([] : List Int), ([] : List Int), 8))))) else (some (([] : List Int), ([] : List Int), t509)))
set_option maxHeartbeats 8000000 in
set_option maxRecDepth 100000 in
theorem gradineref22_Reshape.calls (k : Nat) (A0 : Option Addr) (c0 : Nat) (l0 : List Int) (A1 : Option Addr) (c1 : Nat) (l1 : List Int) (r1 : List Int) (r2 : List Int) (r3 : Int) (w : World) (hr0 : Kd.C (Kd.int .i64) w A0 l0.length l0) (hc0 : l0.length ≤ c0) (hr1 : Kd.C (Kd.int .i64) w A1 l1.length l1) (hc1 : l1.length ≤ c1) (h : gradineref22_Reshape.f k l0 l1 = some (r1, r2, r3)) :
  Calls Try.prog 48 #[.slice A0 l0.length c0, .slice A1 l1.length c1] w fun e w' => ∃ v0_ v1_ : Value, e = .returned (.tuple #[v0_, v1_, .int .i64 r3]) ∧ Kd.R (Kd.int .i64) 3 w' w.heap.size (fun k_ => some k_ ≠ (v1_ : Value).ownBlock) v0_ r1 ∧ Kd.R (Kd.int .i64) 3 w' w.heap.size (fun k_ => some k_ ≠ (v0_ : Value).ownBlock) v1_ r2 ∧ Below w.heap.size w w' := by
 have HR0 := aM hr0
 have HC0 := aM hc0
 clear hr0 hc0
 have HR1 := aM hr1
 have HC1 := aM hc1
 clear hr1 hc1
 have HB := aM (Below.refl w.heap.size w)
 have H : ((gradineref19_Check.f k l1).bind fun t509 => (if t509 = 0 then ((gradineref19_Count.f k l1).bind fun t510 => ((gradineref19_Count.f k l0).bind fun t511 => (if t510 = t511 then ((gradineref19_Count.f k l0).bind fun t512 => (gradineref22_Reshape.l0 k l1 ([] : List Int) t512 0)) else (some (([] : List Int), ([] : List Int), 8))))) else (some (([] : List Int), ([] : List Int), t509)))) = some (r1, r2, r3) := h
 clear h
 replace H := Option.bind_eq_some_iff.mp H
 obtain ⟨t509, A30, H⟩ := H
 try dsimp only at H
 have A3 := aM A30
 clear A30
 by_cases c4 : t509 = 0
 rotate_left
 ·rw [if_neg c4] at H
  have c4b0 : (t509 == 0) = false := beq_eq_false_iff_ne.mpr c4
  have c4b1 : (t509 != 0) = true := bne_iff_ne.mpr c4
  simp only [Option.some.injEq, Prod.mk.injEq] at H
  obtain ⟨rfl, rfl, rfl⟩ := H
  go_enter Try.func48, Try.ntmps48
  go_wp2_with (first | ((with_reducible refine gate_callee (f := 15) rfl ?_); refine goesL_ (some 11) rfl rfl Try.func15 (by kernel_rfl) rfl #[.slice A1 l1.length c1] rfl pA ?_; (with_reducible refine (gradineref19_Check.calls k _ _ l1 t509 _ ?s1 ?s2 A3.out).mono ?_); (case s1 => exact pC HR1.out); (case s2 => exact HC1.out); rintro e w' ⟨rfl, ⟨nd, rfl⟩⟩; refine ⟨_, rfl, ?_⟩))
  go_ret3
  exact ⟨_, _, pE, pN, pN, qB HB⟩
 rw [if_pos c4] at H
 have c4b0 : (t509 == 0) = true := beq_iff_eq.mpr c4
 have c4b1 : (t509 != 0) = false := bne_eq_false_iff_eq.mpr c4
 clear c4
 replace H := Option.bind_eq_some_iff.mp H
 obtain ⟨t510, A50, H⟩ := H
 try dsimp only at H
 have A5 := aM A50
 clear A50
 replace H := Option.bind_eq_some_iff.mp H
 obtain ⟨t511, A60, H⟩ := H
 try dsimp only at H
 have A6 := aM A60
 clear A60
 by_cases c7 : t510 = t511
 rotate_left
 ·rw [if_neg c7] at H
  have c7b0 : (t510 == t511) = false := beq_eq_false_iff_ne.mpr c7
  have c7b1 : (t510 != t511) = true := bne_iff_ne.mpr c7
  simp only [Option.some.injEq, Prod.mk.injEq] at H
  obtain ⟨rfl, rfl, rfl⟩ := H
  go_enter Try.func48, Try.ntmps48
  go_wp2_with (first | ((with_reducible refine gate_callee (f := 15) rfl ?_); refine goesL_ (some 11) rfl rfl Try.func15 (by kernel_rfl) rfl #[.slice A1 l1.length c1] rfl pA ?_; (with_reducible refine (gradineref19_Check.calls k _ _ l1 t509 _ ?s1 ?s2 A3.out).mono ?_); (case s1 => exact pC HR1.out); (case s2 => exact HC1.out); rintro e w' ⟨rfl, ⟨nd, rfl⟩⟩; refine ⟨_, rfl, ?_⟩) | ((with_reducible refine gate_callee (f := 16) rfl ?_); refine goesL_ (some 16) rfl rfl Try.func16 (by kernel_rfl) rfl #[.slice A1 l1.length c1] rfl pA ?_; (with_reducible refine (gradineref19_Count.calls k _ _ l1 t510 _ ?s1 ?s2 A5.out).mono ?_); (case s1 => exact pC HR1.out); (case s2 => exact HC1.out); rintro e w' ⟨rfl, ⟨nd, rfl⟩⟩; refine ⟨_, rfl, ?_⟩) | ((with_reducible refine gate_callee (f := 16) rfl ?_); refine goesL_ (some 18) rfl rfl Try.func16 (by kernel_rfl) rfl #[.slice A0 l0.length c0] rfl pA ?_; (with_reducible refine (gradineref19_Count.calls k _ _ l0 t511 _ ?s1 ?s2 A6.out).mono ?_); (case s1 => exact pC HR0.out); (case s2 => exact HC0.out); rintro e w' ⟨rfl, ⟨nd, rfl⟩⟩; refine ⟨_, rfl, ?_⟩))
  go_ret3
  exact ⟨_, _, pE, pN, pN, qB HB⟩
 rw [if_pos c7] at H
 have c7b0 : (t510 == t511) = true := beq_iff_eq.mpr c7
 have c7b1 : (t510 != t511) = false := bne_eq_false_iff_eq.mpr c7
 clear c7
 replace H := Option.bind_eq_some_iff.mp H
 obtain ⟨t512, A80, H⟩ := H
 try dsimp only at H
 have A8 := aM A80
 clear A80
 have H' := aM H
 clear H
 go_enter Try.func48, Try.ntmps48
 go_wp2_with (first | ((with_reducible refine gate_callee (f := 15) rfl ?_); refine goesL_ (some 11) rfl rfl Try.func15 (by kernel_rfl) rfl #[.slice A1 l1.length c1] rfl pA ?_; (with_reducible refine (gradineref19_Check.calls k _ _ l1 t509 _ ?s1 ?s2 A3.out).mono ?_); (case s1 => exact pC HR1.out); (case s2 => exact HC1.out); rintro e w' ⟨rfl, ⟨nd, rfl⟩⟩; refine ⟨_, rfl, ?_⟩) | ((with_reducible refine gate_callee (f := 16) rfl ?_); refine goesL_ (some 16) rfl rfl Try.func16 (by kernel_rfl) rfl #[.slice A1 l1.length c1] rfl pA ?_; (with_reducible refine (gradineref19_Count.calls k _ _ l1 t510 _ ?s1 ?s2 A5.out).mono ?_); (case s1 => exact pC HR1.out); (case s2 => exact HC1.out); rintro e w' ⟨rfl, ⟨nd, rfl⟩⟩; refine ⟨_, rfl, ?_⟩) | ((with_reducible refine gate_callee (f := 16) rfl ?_); refine goesL_ (some 18) rfl rfl Try.func16 (by kernel_rfl) rfl #[.slice A0 l0.length c0] rfl pA ?_; (with_reducible refine (gradineref19_Count.calls k _ _ l0 t511 _ ?s1 ?s2 A6.out).mono ?_); (case s1 => exact pC HR0.out); (case s2 => exact HC0.out); rintro e w' ⟨rfl, ⟨nd, rfl⟩⟩; refine ⟨_, rfl, ?_⟩) | ((with_reducible refine gate_callee (f := 16) rfl ?_); refine goesL_ (some 21) rfl rfl Try.func16 (by kernel_rfl) rfl #[.slice A0 l0.length c0] rfl pA ?_; (with_reducible refine (gradineref19_Count.calls k _ _ l0 t512 _ ?s1 ?s2 A8.out).mono ?_); (case s1 => exact pC HR0.out); (case s2 => exact HC0.out); rintro e w' ⟨rfl, ⟨nd, rfl⟩⟩; refine ⟨_, rfl, ?_⟩))
 go_loopg [8, 22] k (fun kq v8 v22 w' => ∃ (x8_1 : List Int) (x22_1 : Int), v22 = .int .i64 x22_1 ∧ Aside0 (gradineref22_Reshape.l0 kq l1 x8_1 t512 x22_1 = some (r1, r2, r3)) ∧ Aside0 (kq ≤ k) ∧ Aside0 (Kd.R (Kd.int .i64) 3 w' w.heap.size (fun _ => True) v8 x8_1) ∧ Aside0 (Below w.heap.size w w'))
 case atStart => exact ⟨(([] : List Int)), (0), (pF), H', ⟨Nat.le_refl _⟩, ⟨pN⟩, ⟨qB HB⟩⟩
 case round =>
  clear H'
  try clear c1
  try clear c4b0
  try clear c4b1
  try clear c7b0
  try clear c7b1
  obtain ⟨x8_1, x22_1, rfl, HA, HK1, HO_8, HB⟩ := hrel
  cases gk with
  | zero => exact absurd HA.out (by simp [gradineref22_Reshape.l0])
  | succ k1 =>
   have H := HA.out
   clear HA
   simp only [gradineref22_Reshape.l0] at H
   by_cases c9 : x22_1 < t512
   ·rw [if_pos c9] at H
    have c9b0 : decide (x22_1 < t512) = true := decide_eq_true c9
    clear c9
    by_cases c10 : x8_1.length < 17592186044416
    rotate_left
    ·rw [if_neg c10] at H
     exact absurd H (by simp)
    rw [if_pos c10] at H
    have LMc10 := aM c10
    clear c10
    obtain ⟨y513, hy513⟩ : ∃ y_ : List Int, y_ = (x8_1 ++ [x22_1]) := ⟨_, rfl⟩
    replace H : (gradineref22_Reshape.l0 k1 l1 y513 t512 (wrap64 (x22_1 + 1))) = some (r1, r2, r3) := pH hy513 H
    have Ny513 := aM hy513
    clear hy513
    have H' := aM H
    clear H
    go_wp2_with (first | ((with_reducible refine gate_builtin (b := .append) (xs := #[.tmp 25, .tmp 27]) rfl ?_); at_builtin; refine Kd.R_append (Kd.int .i64) (w0 := w) w.heap.size rfl (.tmp 25) (.tmp 27) 22 3 (.int .i64 0) 8 rfl Try.underlying22 info3 rfl (by decide) (by omega) u8 x8_1 x22_1 [.int .i64 x22_1] (fun _ => True) (fun _ => False) rfl rfl ?aP (fun _ hk => hk.elim) ?aF ?aO ?aB ?aS ?aL ?_; (case aP => exact rfl); (case aB => exact (qB HB)); (case aF => exact (fun _ _ => trivial)); (case aO => exact (pR HO_8.out)); (case aS => exact (below_size (qB HB))); (case aL => have := LMc10.out; omega); intro v514 w11 ho hb hg hat; rw [← Ny513.out] at ho; replace HB := aM (hb); have HO515 := aM (ho); clear HO_8; clear ho hb hg hat))
    go_roundg k1
    case measure => have := HK1.out; omega
    case rel => exact ⟨(y513), (wrap64 (x22_1 + 1)), (pF), H', ⟨by have := HK1.out; omega⟩, ⟨pR HO515.out⟩, ⟨qB HB⟩⟩
   rw [if_neg c9] at H
   have c9b0 : decide (x22_1 < t512) = false := decide_eq_false c9
   clear c9
   obtain ⟨y516, hy516⟩ : ∃ y_ : List Int, y_ = (([] : List Int)) := ⟨_, rfl⟩
   replace H : (if y516.length + l1.length < 17592186044416 then (some ((y516 ++ l1), x8_1, 0)) else (none)) = some (r1, r2, r3) := pH hy516 H
   have Ny516 := aM hy516
   clear hy516
   by_cases c12 : y516.length + l1.length < 17592186044416
   rotate_left
   ·rw [if_neg c12] at H
    exact absurd H (by simp)
   rw [if_pos c12] at H
   have LMc12 := aM c12
   clear c12
   obtain ⟨y519, hy519⟩ : ∃ y_ : List Int, y_ = (y516 ++ l1) := ⟨_, rfl⟩
   replace H : (some (y519, x8_1, 0)) = some (r1, r2, r3) := pH hy519 H
   have Ny519 := aM hy519
   clear hy519
   simp only [Option.some.injEq, Prod.mk.injEq] at H
   obtain ⟨rfl, rfl, rfl⟩ := H
   go_wp2_with (first | ((with_reducible refine gate_dst (N := 30) rfl ?_); refine Kd.R_lit (Kd.int .i64) _ 3 ?hg (N := 30) ?hd (xs := ([] : List Int)) (inner := []) (ok := fun _ => True) (okp := fun _ => True) ?hr ?hp (fun _ hk => hk) trivial (Below.refl _ _) (Nat.le_refl _) (by simp) ?_; (case hd => rfl); (case hg => rfl); (case hr => first | (go_simp; done) | (go_simp; rfl)); (case hp => exact (Reps.none _ _)); intro v517 w13 ho14 hb hg_ hnew_; clear hg_ hnew_; (first | rw [← Ny516.out] at ho14 | (simp only [Int.reduceToNat] at ho14; rw [← Ny516.out] at ho14)); have HO518 := aM (Kd.R_lower (Kd.R_new' ho14 (Kd.R_lt (pR HO_8.out))) (below_size (qB HB))); replace HO_8 := eR HO_8 ho14 hb; replace HB := bS (qB HB) hb; clear hb ho14) | ((with_reducible refine gate_builtin (b := .append) (xs := #[.tmp 30, .tmp 31]) rfl ?_); at_builtin; refine Kd.R_append_rows (Kd.int .i64) (w0 := w) w.heap.size rfl (.tmp 30) (.tmp 31) 22 3 (.int .i64 0) 8 rfl Try.underlying22 info3 rfl (by decide) (by omega) v517 y516 l1 _ _ _ (fun k_ => some k_ ≠ (u8 : Value).ownBlock) (fun _ => False) rfl rfl ?aO ?aR (fun _ _ h => h) (fun _ h => h.elim) ?aF ?aB ?aS ?aL ?_; (case aR => exact sC HR1 HB); (case aB => exact (qB HB)); (case aF => exact (fun k_ hk => Kd.fresh' (Kd.R_lt (pR HO_8.out)) k_ hk)); (case aO => exact (by (with_reducible repeat (first | apply rA | apply rN | apply rD)); exact Kd.R_mono HO518.out (fun _ hk => hk.2))); (case aS => exact (below_size (qB HB))); (case aL => have := LMc12.out; omega); intro v520 w15 ho hb hg hat; rw [← Ny519.out] at ho; replace HO_8 := aM (Kd.R_after (ok := (fun _ => True)) (pR HO_8.out) hg hat); replace HB := aM (hb); have HO521 := aM (ho); clear HO518; clear ho hb hg hat))
   go_ret3
   exact ⟨_, _, pE, pR HO521.out, by (with_reducible repeat (first | apply rA | apply rN | apply rD)); exact Kd.R_mono HO_8.out (fun _ hk => hk.2), qB HB⟩
mutual
def gradineref22_Slice.j0 : Nat → List Int → Int → Int → Int → Int → Bool → Option (List Int × List Int × Int)
 | 0, _, _, _, _, _, _ => none
 | k + 1, x0, x1, x2, x3, x4, x23 => if x23 = true then (some (([] : List Int), ([] : List Int), 10)) else (if x3 < 1 then (gradineref22_Slice.j1 k x0 x1 x2 x3 x4 true) else (if 0 ≤ x1 then (if x1 < (x0.length : Int) then (if x3 > (rd x0 x1) then (gradineref22_Slice.j1 k x0 x1 x2 x3 x4 true) else (if x2 < 0 then (gradineref22_Slice.j1 k x0 x1 x2 x3 x4 true) else (if x2 ≥ (rd x0 x1) then (gradineref22_Slice.j1 k x0 x1 x2 x3 x4 true) else (if x3 > 1 then (if x4 = 0 then (gradineref22_Slice.j1 k x0 x1 x2 x3 x4 true) else (if x4 > 64 then (gradineref22_Slice.j1 k x0 x1 x2 x3 x4 true) else (gradineref22_Slice.j1 k x0 x1 x2 x3 x4 (decide (x4 < (-64)))))) else (gradineref22_Slice.j1 k x0 x1 x2 x3 x4 false))))) else (none)) else (none)))
def gradineref22_Slice.j1 : Nat → List Int → Int → Int → Int → Int → Bool → Option (List Int × List Int × Int)
 | 0, _, _, _, _, _, _ => none
 | k + 1, x0, x1, x2, x3, x4, x61 => if x61 = true then (some (([] : List Int), ([] : List Int), 11)) else (gradineref22_Slice.l0 k x0 x1 x2 x4 ([] : List Int) x3 0)
def gradineref22_Slice.l0 : Nat → List Int → Int → Int → Int → List Int → Int → Int → Option (List Int × List Int × Int)
 | 0, _, _, _, _, _, _, _ => none
 | k + 1, x0, x1, x2, x4, x13, x62, x63 => if x63 < x62 then (if x63 > 0 then (if (wrap64 (x2 + (wrap64 (x63 * x4)))) < 0 then (some (([] : List Int), ([] : List Int), 11)) else (if 0 ≤ x1 then (if x1 < (x0.length : Int) then (if (wrap64 (x2 + (wrap64 (x63 * x4)))) ≥ (rd x0 x1) then (some (([] : List Int), ([] : List Int), 11)) else (if x13.length < 17592186044416 then (gradineref22_Slice.l0 k x0 x1 x2 x4 (x13 ++ [wrap64 (x2 + (wrap64 (x63 * x4)))]) x62 (wrap64 (x63 + 1))) else (none))) else (none)) else (none))) else (if x2 < 0 then (some (([] : List Int), ([] : List Int), 11)) else (if 0 ≤ x1 then (if x1 < (x0.length : Int) then (if x2 ≥ (rd x0 x1) then (some (([] : List Int), ([] : List Int), 11)) else (if x13.length < 17592186044416 then (gradineref22_Slice.l0 k x0 x1 x2 x4 (x13 ++ [x2]) x62 (wrap64 (x63 + 1))) else (none))) else (none)) else (none)))) else ((gradineref22_Take.f k x0 x1 x13).bind fun bt597 => (some (bt597.1, bt597.2.1, bt597.2.2)))
end
def gradineref22_Slice.f (k : Nat) (l0 : List Int) (a1 : Int) (a2 : Int) (a3 : Int) (a4 : Int) : Option (List Int × List Int × Int) := if a1 < 0 then (gradineref22_Slice.j0 k l0 a1 a2 a3 a4 true) else (gradineref22_Slice.j0 k l0 a1 a2 a3 a4 (decide (a1 ≥ (l0.length : Int))))
set_option maxHeartbeats 8000000 in
set_option maxRecDepth 100000 in
theorem gradineref22_Slice.calls (k : Nat) (A0 : Option Addr) (c0 : Nat) (l0 : List Int) (a1 : Int) (a2 : Int) (a3 : Int) (a4 : Int) (r1 : List Int) (r2 : List Int) (r3 : Int) (w : World) (hr0 : Kd.C (Kd.int .i64) w A0 l0.length l0) (hc0 : l0.length ≤ c0) (h : gradineref22_Slice.f k l0 a1 a2 a3 a4 = some (r1, r2, r3)) :
  Calls Try.prog 50 #[.slice A0 l0.length c0, .int .i64 a1, .int .i64 a2, .int .i64 a3, .int .i64 a4] w fun e w' => ∃ v0_ v1_ : Value, e = .returned (.tuple #[v0_, v1_, .int .i64 r3]) ∧ Kd.R (Kd.int .i64) 3 w' w.heap.size (fun k_ => some k_ ≠ (v1_ : Value).ownBlock) v0_ r1 ∧ Kd.R (Kd.int .i64) 3 w' w.heap.size (fun k_ => some k_ ≠ (v0_ : Value).ownBlock) v1_ r2 ∧ Below w.heap.size w w' := by
 have HR0 := aM hr0
 have HC0 := aM hc0
 clear hr0 hc0
 have HB := aM (Below.refl w.heap.size w)
 have H : (if a1 < 0 then (gradineref22_Slice.j0 k l0 a1 a2 a3 a4 true) else (gradineref22_Slice.j0 k l0 a1 a2 a3 a4 (decide (a1 ≥ (l0.length : Int))))) = some (r1, r2, r3) := h
 clear h
 have HC6 := aM H
 clear H
 go_enter Try.func50, Try.ntmps50
 go_upto_region 1 with (fail)
 go_cut [23] (fun v23 wc => ∃ (kq : Nat) (x23_5 : Bool), v23 = .bool x23_5 ∧ Aside0 (gradineref22_Slice.j0 kq l0 a1 a2 a3 a4 x23_5 = some (r1, r2, r3)) ∧ Aside0 (kq ≤ k) ∧ Aside0 (Below w.heap.size w wc))
 case first =>
  have H := HC6.out
  clear HC6
  by_cases c7 : a1 < 0
  ·rw [if_pos c7] at H
   have c7b0 : decide (a1 < 0) = true := decide_eq_true c7
   clear c7
   (first | rw [c7b0] | (simp only [i64_w, i32_w]; rw [c7b0]) | skip)
   have H' := aM H
   clear H
   go_wp2
   go_meet
   case rel => exact ⟨_, (true), (pF), H', ⟨by first | omega | exact Nat.le_refl _⟩, ⟨qB HB⟩⟩
  rw [if_neg c7] at H
  have c7b0 : decide (a1 < 0) = false := decide_eq_false c7
  clear c7
  (first | rw [c7b0] | (simp only [i64_w, i32_w]; rw [c7b0]) | skip)
  have H' := aM H
  clear H
  go_wp2
  go_meet
  case rel => exact ⟨_, (decide (a1 ≥ (l0.length : Int))), (pF), H', ⟨by first | omega | exact Nat.le_refl _⟩, ⟨qB HB⟩⟩
 case rest =>
  clear HC6
  obtain ⟨kq, x23_5, rfl, HA, HJ5, HB⟩ := hcut
  cases kq with
  | zero => exact absurd HA.out (by simp [gradineref22_Slice.j0])
  | succ kj5 =>
   have H := HA.out
   clear HA
   simp only [gradineref22_Slice.j0] at H
   by_cases c8 : x23_5 = true
   ·subst c8
    rw [if_pos rfl] at H
    simp only [Option.some.injEq, Prod.mk.injEq] at H
    obtain ⟨rfl, rfl, rfl⟩ := H
    go_wp2
    go_ret3
    exact ⟨_, _, pE, pN, pN, qB HB⟩
   replace c8 := Bool.eq_false_iff.mpr c8
   subst c8
   rw [if_neg (show ¬ (false = true) by decide)] at H
   have HC9 := aM H
   clear H
   go_upto_region 3 with (fail)
   go_cut [61] (fun v61 wc => ∃ (kq : Nat) (x61_8 : Bool), v61 = .bool x61_8 ∧ Aside0 (gradineref22_Slice.j1 kq l0 a1 a2 a3 a4 x61_8 = some (r1, r2, r3)) ∧ Aside0 (kq ≤ kj5) ∧ Aside0 (Below w.heap.size w wc))
   case first =>
    have H := HC9.out
    clear HC9
    by_cases c10 : a3 < 1
    ·rw [if_pos c10] at H
     have c10b0 : decide (a3 < 1) = true := decide_eq_true c10
     clear c10
     (first | rw [c10b0] | (simp only [i64_w, i32_w]; rw [c10b0]) | skip)
     have H' := aM H
     clear H
     go_wp2
     go_meet
     case rel => exact ⟨_, (true), (pF), H', ⟨by have := HJ5.out; first | omega | exact Nat.le_refl _⟩, ⟨qB HB⟩⟩
    rw [if_neg c10] at H
    have c10b0 : decide (a3 < 1) = false := decide_eq_false c10
    clear c10
    (first | rw [c10b0] | (simp only [i64_w, i32_w]; rw [c10b0]) | skip)
    by_cases c11 : 0 ≤ a1
    rotate_left
    ·rw [if_neg c11] at H
     exact absurd H (by simp)
    rw [if_pos c11] at H
    have c11b0 : decide (0 ≤ a1) = true := decide_eq_true c11
    clear c11
    by_cases c12 : a1 < (l0.length : Int)
    rotate_left
    ·rw [if_neg c12] at H
     exact absurd H (by simp)
    rw [if_pos c12] at H
    have c12b0 : decide (a1 < (l0.length : Int)) = true := decide_eq_true c12
    clear c12
    by_cases c13 : a3 > (rd l0 a1)
    ·rw [if_pos c13] at H
     have c13b0 : decide ((rd l0 a1) < a3) = true := decide_eq_true c13
     clear c13
     have H' := aM H
     clear H
     have p595 : 0 ≤ (a1 : Int) := of_decide_eq_true pD
     have q595 : a1 < (l0.length : Int) := of_decide_eq_true pD
     obtain ⟨ad595, e595, hx595_0⟩ := Kd.at_int HR0.out a1 p595 q595
     cases e595
     replace hx595_0 := (HB.out.cell (World.block_lt_of_cell? w _ hx595_0)).trans hx595_0
     replace p595 := eq_true p595
     replace q595 := eq_true q595
     go_wp2
     go_meet
     case rel => exact ⟨_, (true), (pF), H', ⟨by have := HJ5.out; first | omega | exact Nat.le_refl _⟩, ⟨qB HB⟩⟩
    rw [if_neg c13] at H
    have c13b0 : decide ((rd l0 a1) < a3) = false := decide_eq_false c13
    clear c13
    by_cases c14 : a2 < 0
    ·rw [if_pos c14] at H
     have c14b0 : decide (a2 < 0) = true := decide_eq_true c14
     clear c14
     have H' := aM H
     clear H
     have p595 : 0 ≤ (a1 : Int) := of_decide_eq_true pD
     have q595 : a1 < (l0.length : Int) := of_decide_eq_true pD
     obtain ⟨ad595, e595, hx595_0⟩ := Kd.at_int HR0.out a1 p595 q595
     cases e595
     replace hx595_0 := (HB.out.cell (World.block_lt_of_cell? w _ hx595_0)).trans hx595_0
     replace p595 := eq_true p595
     replace q595 := eq_true q595
     go_wp2
     go_meet
     case rel => exact ⟨_, (true), (pF), H', ⟨by have := HJ5.out; first | omega | exact Nat.le_refl _⟩, ⟨qB HB⟩⟩
    rw [if_neg c14] at H
    have c14b0 : decide (a2 < 0) = false := decide_eq_false c14
    clear c14
    by_cases c15 : a2 ≥ (rd l0 a1)
    ·rw [if_pos c15] at H
     have c15b0 : decide ((rd l0 a1) ≤ a2) = true := decide_eq_true c15
     clear c15
     have H' := aM H
     clear H
     have p595 : 0 ≤ (a1 : Int) := of_decide_eq_true pD
     have q595 : a1 < (l0.length : Int) := of_decide_eq_true pD
     obtain ⟨ad595, e595, hx595_0⟩ := Kd.at_int HR0.out a1 p595 q595
     cases e595
     replace hx595_0 := (HB.out.cell (World.block_lt_of_cell? w _ hx595_0)).trans hx595_0
     replace p595 := eq_true p595
     replace q595 := eq_true q595
     have p596 : 0 ≤ (a1 : Int) := of_decide_eq_true pD
     have q596 : a1 < (l0.length : Int) := of_decide_eq_true pD
     obtain ⟨ad596, e596, hx596_0⟩ := Kd.at_int HR0.out a1 p596 q596
     obtain rfl : ad595 = ad596 := (by injection e596)
     replace hx596_0 := (HB.out.cell (World.block_lt_of_cell? w _ hx596_0)).trans hx596_0
     replace p596 := eq_true p596
     replace q596 := eq_true q596
     go_wp2
     go_meet
     case rel => exact ⟨_, (true), (pF), H', ⟨by have := HJ5.out; first | omega | exact Nat.le_refl _⟩, ⟨qB HB⟩⟩
    rw [if_neg c15] at H
    have c15b0 : decide ((rd l0 a1) ≤ a2) = false := decide_eq_false c15
    clear c15
    by_cases c16 : a3 > 1
    rotate_left
    ·rw [if_neg c16] at H
     have c16b0 : decide (1 < a3) = false := decide_eq_false c16
     clear c16
     have H' := aM H
     clear H
     have p595 : 0 ≤ (a1 : Int) := of_decide_eq_true pD
     have q595 : a1 < (l0.length : Int) := of_decide_eq_true pD
     obtain ⟨ad595, e595, hx595_0⟩ := Kd.at_int HR0.out a1 p595 q595
     cases e595
     replace hx595_0 := (HB.out.cell (World.block_lt_of_cell? w _ hx595_0)).trans hx595_0
     replace p595 := eq_true p595
     replace q595 := eq_true q595
     have p596 : 0 ≤ (a1 : Int) := of_decide_eq_true pD
     have q596 : a1 < (l0.length : Int) := of_decide_eq_true pD
     obtain ⟨ad596, e596, hx596_0⟩ := Kd.at_int HR0.out a1 p596 q596
     obtain rfl : ad595 = ad596 := (by injection e596)
     replace hx596_0 := (HB.out.cell (World.block_lt_of_cell? w _ hx596_0)).trans hx596_0
     replace p596 := eq_true p596
     replace q596 := eq_true q596
     go_wp2
     go_meet
     case rel => exact ⟨_, (false), (pF), H', ⟨by have := HJ5.out; first | omega | exact Nat.le_refl _⟩, ⟨qB HB⟩⟩
    rw [if_pos c16] at H
    have c16b0 : decide (1 < a3) = true := decide_eq_true c16
    clear c16
    by_cases c17 : a4 = 0
    ·rw [if_pos c17] at H
     have c17b0 : (a4 == 0) = true := beq_iff_eq.mpr c17
     have c17b1 : (a4 != 0) = false := bne_eq_false_iff_eq.mpr c17
     clear c17
     have H' := aM H
     clear H
     have p595 : 0 ≤ (a1 : Int) := of_decide_eq_true pD
     have q595 : a1 < (l0.length : Int) := of_decide_eq_true pD
     obtain ⟨ad595, e595, hx595_0⟩ := Kd.at_int HR0.out a1 p595 q595
     cases e595
     replace hx595_0 := (HB.out.cell (World.block_lt_of_cell? w _ hx595_0)).trans hx595_0
     replace p595 := eq_true p595
     replace q595 := eq_true q595
     have p596 : 0 ≤ (a1 : Int) := of_decide_eq_true pD
     have q596 : a1 < (l0.length : Int) := of_decide_eq_true pD
     obtain ⟨ad596, e596, hx596_0⟩ := Kd.at_int HR0.out a1 p596 q596
     obtain rfl : ad595 = ad596 := (by injection e596)
     replace hx596_0 := (HB.out.cell (World.block_lt_of_cell? w _ hx596_0)).trans hx596_0
     replace p596 := eq_true p596
     replace q596 := eq_true q596
     go_wp2
     go_meet
     case rel => exact ⟨_, (true), (pF), H', ⟨by have := HJ5.out; first | omega | exact Nat.le_refl _⟩, ⟨qB HB⟩⟩
    rw [if_neg c17] at H
    have c17b0 : (a4 == 0) = false := beq_eq_false_iff_ne.mpr c17
    have c17b1 : (a4 != 0) = true := bne_iff_ne.mpr c17
    by_cases c18 : a4 > 64
    ·rw [if_pos c18] at H
     have c18b0 : decide (64 < a4) = true := decide_eq_true c18
     clear c18
     have H' := aM H
     clear H
     have p595 : 0 ≤ (a1 : Int) := of_decide_eq_true pD
     have q595 : a1 < (l0.length : Int) := of_decide_eq_true pD
     obtain ⟨ad595, e595, hx595_0⟩ := Kd.at_int HR0.out a1 p595 q595
     cases e595
     replace hx595_0 := (HB.out.cell (World.block_lt_of_cell? w _ hx595_0)).trans hx595_0
     replace p595 := eq_true p595
     replace q595 := eq_true q595
     have p596 : 0 ≤ (a1 : Int) := of_decide_eq_true pD
     have q596 : a1 < (l0.length : Int) := of_decide_eq_true pD
     obtain ⟨ad596, e596, hx596_0⟩ := Kd.at_int HR0.out a1 p596 q596
     obtain rfl : ad595 = ad596 := (by injection e596)
     replace hx596_0 := (HB.out.cell (World.block_lt_of_cell? w _ hx596_0)).trans hx596_0
     replace p596 := eq_true p596
     replace q596 := eq_true q596
     go_wp2
     go_meet
     case rel => exact ⟨_, (true), (pF), H', ⟨by have := HJ5.out; first | omega | exact Nat.le_refl _⟩, ⟨qB HB⟩⟩
    rw [if_neg c18] at H
    have c18b0 : decide (64 < a4) = false := decide_eq_false c18
    clear c18
    have H' := aM H
    clear H
    have p595 : 0 ≤ (a1 : Int) := of_decide_eq_true pD
    have q595 : a1 < (l0.length : Int) := of_decide_eq_true pD
    obtain ⟨ad595, e595, hx595_0⟩ := Kd.at_int HR0.out a1 p595 q595
    cases e595
    replace hx595_0 := (HB.out.cell (World.block_lt_of_cell? w _ hx595_0)).trans hx595_0
    replace p595 := eq_true p595
    replace q595 := eq_true q595
    have p596 : 0 ≤ (a1 : Int) := of_decide_eq_true pD
    have q596 : a1 < (l0.length : Int) := of_decide_eq_true pD
    obtain ⟨ad596, e596, hx596_0⟩ := Kd.at_int HR0.out a1 p596 q596
    obtain rfl : ad595 = ad596 := (by injection e596)
    replace hx596_0 := (HB.out.cell (World.block_lt_of_cell? w _ hx596_0)).trans hx596_0
    replace p596 := eq_true p596
    replace q596 := eq_true q596
    go_wp2
    go_meet
    case rel => exact ⟨_, (decide (a4 < (-64))), (pF), H', ⟨by have := HJ5.out; first | omega | exact Nat.le_refl _⟩, ⟨qB HB⟩⟩
   case rest =>
    clear HC9
    try clear c8
    obtain ⟨kq, x61_8, rfl, HA, HJ8, HB⟩ := hcut
    cases kq with
    | zero => exact absurd HA.out (by simp [gradineref22_Slice.j1])
    | succ kj8 =>
     have H := HA.out
     clear HA
     simp only [gradineref22_Slice.j1] at H
     by_cases c19 : x61_8 = true
     ·subst c19
      rw [if_pos rfl] at H
      simp only [Option.some.injEq, Prod.mk.injEq] at H
      obtain ⟨rfl, rfl, rfl⟩ := H
      go_wp2
      go_ret3
      exact ⟨_, _, pE, pN, pN, qB HB⟩
     replace c19 := Bool.eq_false_iff.mpr c19
     subst c19
     rw [if_neg (show ¬ (false = true) by decide)] at H
     have H' := aM H
     clear H
     go_wp2
     go_loopg [13, 63] kj8 (fun kq v13 v63 w' => ∃ (x13_3 : List Int) (x63_3 : Int), v63 = .int .i64 x63_3 ∧ Aside0 (gradineref22_Slice.l0 kq l0 a1 a2 a4 x13_3 a3 x63_3 = some (r1, r2, r3)) ∧ Aside0 (kq ≤ kj8) ∧ Aside0 (Kd.R (Kd.int .i64) 3 w' w.heap.size (fun _ => True) v13 x13_3) ∧ Aside0 (Below w.heap.size w w'))
     case atStart => exact ⟨(([] : List Int)), (0), (pF), H', ⟨Nat.le_refl _⟩, ⟨pN⟩, ⟨qB HB⟩⟩
     case round =>
      clear H'
      try clear c19
      obtain ⟨x13_3, x63_3, rfl, HA, HK3, HO_13, HB⟩ := hrel
      cases gk with
      | zero => exact absurd HA.out (by simp [gradineref22_Slice.l0])
      | succ k3 =>
       have H := HA.out
       clear HA
       simp only [gradineref22_Slice.l0] at H
       by_cases c20 : x63_3 < a3
       rotate_left
       ·rw [if_neg c20] at H
        have c20b0 : decide (x63_3 < a3) = false := decide_eq_false c20
        clear c20
        replace H := Option.bind_eq_some_iff.mp H
        obtain ⟨⟨t597, t598, t599⟩, A340, H⟩ := H
        try dsimp only at H
        have A34 := aM A340
        clear A340
        simp only [Option.some.injEq, Prod.mk.injEq] at H
        obtain ⟨rfl, rfl, rfl⟩ := H
        obtain ⟨Ao35, co35, eo35⟩ := Kd.R_slice HO_13.out
        subst eo35
        go_wp2_with (first | ((with_reducible refine gate_callee (f := 60) rfl ?_); refine goesL_ (some 92) rfl rfl Try.func60 (by kernel_rfl) rfl #[.slice A0 l0.length c0, .int .i64 a1, .slice Ao35 x13_3.length co35] rfl pA ?_; (with_reducible refine (gradineref22_Take.calls k3 _ _ l0 a1 _ _ x13_3 t597 t598 t599 _ ?s1 ?s2 ?s3 ?s4 A34.out).mono ?_); (case s1 => exact sC HR0 HB); (case s2 => exact HC0.out); (case s3 => exact sR HO_13); (case s4 => exact sL HO_13); rintro e w36 ⟨v600, v602, rfl, ho0, ho1, hb⟩; refine ⟨_, rfl, ?_⟩; have HO601 := aM (Kd.R_lower (Kd.R_new' ho0 (Kd.R_lt (pR HO_13.out))) (below_size (qB HB))); have HO603 := aM (Kd.R_lower (Kd.R_new' ho1 (Kd.R_lt (pR HO_13.out))) (below_size (qB HB))); replace HO_13 := eR2 HO_13 ho0 ho1 hb; replace HB := bS (qB HB) hb; (try clear hb); (try clear hk); (try clear hi); (try clear ho0); (try clear ho1)))
        go_ret3
        exact ⟨_, _, pE, by (with_reducible repeat (first | apply rA | apply rN | apply rD)); exact Kd.R_mono HO601.out (fun _ hk => hk.1), by (with_reducible repeat (first | apply rA | apply rN | apply rD)); exact Kd.R_mono HO603.out (fun _ hk => hk.1), qB HB⟩
       rw [if_pos c20] at H
       have c20b0 : decide (x63_3 < a3) = true := decide_eq_true c20
       clear c20
       by_cases c21 : x63_3 > 0
       ·rw [if_pos c21] at H
        have c21b0 : decide (0 < x63_3) = true := decide_eq_true c21
        clear c21
        by_cases c22 : (wrap64 (a2 + (wrap64 (x63_3 * a4)))) < 0
        ·rw [if_pos c22] at H
         have c22b0 : decide ((wrap64 (a2 + (wrap64 (x63_3 * a4)))) < 0) = true := decide_eq_true c22
         clear c22
         simp only [Option.some.injEq, Prod.mk.injEq] at H
         obtain ⟨rfl, rfl, rfl⟩ := H
         go_wp2
         go_ret3
         exact ⟨_, _, pE, pN, pN, qB HB⟩
        rw [if_neg c22] at H
        have c22b0 : decide ((wrap64 (a2 + (wrap64 (x63_3 * a4)))) < 0) = false := decide_eq_false c22
        clear c22
        by_cases c23 : 0 ≤ a1
        rotate_left
        ·rw [if_neg c23] at H
         exact absurd H (by simp)
        rw [if_pos c23] at H
        have c23b0 : decide (0 ≤ a1) = true := decide_eq_true c23
        clear c23
        by_cases c24 : a1 < (l0.length : Int)
        rotate_left
        ·rw [if_neg c24] at H
         exact absurd H (by simp)
        rw [if_pos c24] at H
        have c24b0 : decide (a1 < (l0.length : Int)) = true := decide_eq_true c24
        clear c24
        by_cases c25 : (wrap64 (a2 + (wrap64 (x63_3 * a4)))) ≥ (rd l0 a1)
        ·rw [if_pos c25] at H
         have c25b0 : decide ((rd l0 a1) ≤ (wrap64 (a2 + (wrap64 (x63_3 * a4))))) = true := decide_eq_true c25
         clear c25
         simp only [Option.some.injEq, Prod.mk.injEq] at H
         obtain ⟨rfl, rfl, rfl⟩ := H
         have p604 : 0 ≤ (a1 : Int) := of_decide_eq_true pD
         have q604 : a1 < (l0.length : Int) := of_decide_eq_true pD
         obtain ⟨ad604, e604, hx604_0⟩ := Kd.at_int HR0.out a1 p604 q604
         cases e604
         replace hx604_0 := (HB.out.cell (World.block_lt_of_cell? w _ hx604_0)).trans hx604_0
         replace p604 := eq_true p604
         replace q604 := eq_true q604
         go_wp2
         go_ret3
         exact ⟨_, _, pE, pN, pN, qB HB⟩
        rw [if_neg c25] at H
        have c25b0 : decide ((rd l0 a1) ≤ (wrap64 (a2 + (wrap64 (x63_3 * a4))))) = false := decide_eq_false c25
        clear c25
        by_cases c26 : x13_3.length < 17592186044416
        rotate_left
        ·rw [if_neg c26] at H
         exact absurd H (by simp)
        rw [if_pos c26] at H
        have LMc26 := aM c26
        clear c26
        obtain ⟨y605, hy605⟩ : ∃ y_ : List Int, y_ = (x13_3 ++ [wrap64 (a2 + (wrap64 (x63_3 * a4)))]) := ⟨_, rfl⟩
        replace H : (gradineref22_Slice.l0 k3 l0 a1 a2 a4 y605 a3 (wrap64 (x63_3 + 1))) = some (r1, r2, r3) := pH hy605 H
        have Ny605 := aM hy605
        clear hy605
        have H' := aM H
        clear H
        have p604 : 0 ≤ (a1 : Int) := of_decide_eq_true pD
        have q604 : a1 < (l0.length : Int) := of_decide_eq_true pD
        obtain ⟨ad604, e604, hx604_0⟩ := Kd.at_int HR0.out a1 p604 q604
        cases e604
        replace hx604_0 := (HB.out.cell (World.block_lt_of_cell? w _ hx604_0)).trans hx604_0
        replace p604 := eq_true p604
        replace q604 := eq_true q604
        go_wp2_with (first | ((with_reducible refine gate_builtin (b := .append) (xs := #[.tmp 84, .tmp 86]) rfl ?_); (try (refine gate_guard (by rfl) ?_; dsimp only)); at_builtin; refine Kd.R_append (Kd.int .i64) (w0 := w) w.heap.size rfl (.tmp 84) (.tmp 86) 22 3 (.int .i64 0) 8 rfl Try.underlying22 info3 rfl (by decide) (by omega) u13 x13_3 (wrap64 (a2 + (wrap64 (x63_3 * a4)))) [.int .i64 (wrap64 (a2 + (wrap64 (x63_3 * a4))))] (fun _ => True) (fun _ => False) rfl rfl ?aP (fun _ hk => hk.elim) ?aF ?aO ?aB ?aS ?aL ?_; (case aP => exact rfl); (case aB => exact (qB HB)); (case aF => exact (fun _ _ => trivial)); (case aO => exact (pR HO_13.out)); (case aS => exact (below_size (qB HB))); (case aL => have := LMc26.out; omega); intro v606 w27 ho hb hg hat; rw [← Ny605.out] at ho; replace HB := aM (hb); have HO607 := aM (ho); clear HO_13; clear ho hb hg hat))
        go_roundg k3
        case measure => have := HJ5.out; have := HJ8.out; have := HK3.out; omega
        case rel => exact ⟨(y605), (wrap64 (x63_3 + 1)), (pF), H', ⟨by have := HJ5.out; have := HJ8.out; have := HK3.out; omega⟩, ⟨pR HO607.out⟩, ⟨qB HB⟩⟩
       rw [if_neg c21] at H
       have c21b0 : decide (0 < x63_3) = false := decide_eq_false c21
       clear c21
       by_cases c28 : a2 < 0
       ·rw [if_pos c28] at H
        have c28b0 : decide (a2 < 0) = true := decide_eq_true c28
        clear c28
        simp only [Option.some.injEq, Prod.mk.injEq] at H
        obtain ⟨rfl, rfl, rfl⟩ := H
        go_wp2
        go_ret3
        exact ⟨_, _, pE, pN, pN, qB HB⟩
       rw [if_neg c28] at H
       have c28b0 : decide (a2 < 0) = false := decide_eq_false c28
       clear c28
       by_cases c29 : 0 ≤ a1
       rotate_left
       ·rw [if_neg c29] at H
        exact absurd H (by simp)
       rw [if_pos c29] at H
       have c29b0 : decide (0 ≤ a1) = true := decide_eq_true c29
       clear c29
       by_cases c30 : a1 < (l0.length : Int)
       rotate_left
       ·rw [if_neg c30] at H
        exact absurd H (by simp)
       rw [if_pos c30] at H
       have c30b0 : decide (a1 < (l0.length : Int)) = true := decide_eq_true c30
       clear c30
       by_cases c31 : a2 ≥ (rd l0 a1)
       ·rw [if_pos c31] at H
        have c31b0 : decide ((rd l0 a1) ≤ a2) = true := decide_eq_true c31
        clear c31
        simp only [Option.some.injEq, Prod.mk.injEq] at H
        obtain ⟨rfl, rfl, rfl⟩ := H
        have p608 : 0 ≤ (a1 : Int) := of_decide_eq_true pD
        have q608 : a1 < (l0.length : Int) := of_decide_eq_true pD
        obtain ⟨ad608, e608, hx608_0⟩ := Kd.at_int HR0.out a1 p608 q608
        cases e608
        replace hx608_0 := (HB.out.cell (World.block_lt_of_cell? w _ hx608_0)).trans hx608_0
        replace p608 := eq_true p608
        replace q608 := eq_true q608
        go_wp2
        go_ret3
        exact ⟨_, _, pE, pN, pN, qB HB⟩
       rw [if_neg c31] at H
       have c31b0 : decide ((rd l0 a1) ≤ a2) = false := decide_eq_false c31
       clear c31
       by_cases c32 : x13_3.length < 17592186044416
       rotate_left
       ·rw [if_neg c32] at H
        exact absurd H (by simp)
       rw [if_pos c32] at H
       have LMc32 := aM c32
       clear c32
       obtain ⟨y609, hy609⟩ : ∃ y_ : List Int, y_ = (x13_3 ++ [a2]) := ⟨_, rfl⟩
       replace H : (gradineref22_Slice.l0 k3 l0 a1 a2 a4 y609 a3 (wrap64 (x63_3 + 1))) = some (r1, r2, r3) := pH hy609 H
       have Ny609 := aM hy609
       clear hy609
       have H' := aM H
       clear H
       have p608 : 0 ≤ (a1 : Int) := of_decide_eq_true pD
       have q608 : a1 < (l0.length : Int) := of_decide_eq_true pD
       obtain ⟨ad608, e608, hx608_0⟩ := Kd.at_int HR0.out a1 p608 q608
       cases e608
       replace hx608_0 := (HB.out.cell (World.block_lt_of_cell? w _ hx608_0)).trans hx608_0
       replace p608 := eq_true p608
       replace q608 := eq_true q608
       go_wp2_with (first | ((with_reducible refine gate_builtin (b := .append) (xs := #[.tmp 84, .tmp 86]) rfl ?_); (try (refine gate_guard (by rfl) ?_; dsimp only)); at_builtin; refine Kd.R_append (Kd.int .i64) (w0 := w) w.heap.size rfl (.tmp 84) (.tmp 86) 22 3 (.int .i64 0) 8 rfl Try.underlying22 info3 rfl (by decide) (by omega) u13 x13_3 a2 [.int .i64 a2] (fun _ => True) (fun _ => False) rfl rfl ?aP (fun _ hk => hk.elim) ?aF ?aO ?aB ?aS ?aL ?_; (case aP => exact rfl); (case aB => exact (qB HB)); (case aF => exact (fun _ _ => trivial)); (case aO => exact (pR HO_13.out)); (case aS => exact (below_size (qB HB))); (case aL => have := LMc32.out; omega); intro v610 w33 ho hb hg hat; rw [← Ny609.out] at ho; replace HB := aM (hb); have HO611 := aM (ho); clear HO_13; clear ho hb hg hat))
       go_roundg k3
       case measure => have := HJ5.out; have := HJ8.out; have := HK3.out; omega
       case rel => exact ⟨(y609), (wrap64 (x63_3 + 1)), (pF), H', ⟨by have := HJ5.out; have := HJ8.out; have := HK3.out; omega⟩, ⟨pR HO611.out⟩, ⟨qB HB⟩⟩
def gradineref22_Sees.f (k : Nat) (a0 : Int) (a1_0 : Int) (a1_1 : Int) (a1_2 : Int) (a1_3 : Int) (a1_4 : Int) (a1_5 : Int) (a1_6 : Int) (a1_7 : Int) (a1_8 : Bool) (l1_9 : List Int) (l2 : List Int) : Option (List Int × List Int × Int) := if a0 = 33 then ((gradineref22_Reshape.f k l2 l1_9).bind fun bt696 => (some (bt696.1, bt696.2.1, bt696.2.2))) else (if a0 = 34 then ((gradineref22_Permute.f k l2 l1_9).bind fun bt703 => (some (bt703.1, bt703.2.1, bt703.2.2))) else (if a0 = 35 then ((gradineref22_Slice.f k l2 a1_0 a1_1 a1_2 a1_3).bind fun bt710 => (some (bt710.1, bt710.2.1, bt710.2.2))) else (if a0 = 36 then ((gradineref22_Expand.f k l2 l1_9).bind fun bt717 => (some (bt717.1, bt717.2.1, bt717.2.2))) else (if a0 = 37 then ((gradineref22_Flip.f k l2 a1_0).bind fun bt724 => (some (bt724.1, bt724.2.1, bt724.2.2))) else (some (([] : List Int), ([] : List Int), 14))))))
set_option maxHeartbeats 8000000 in
set_option maxRecDepth 100000 in
theorem gradineref22_Sees.calls (k : Nat) (a0 : Int) (a1_0 : Int) (a1_1 : Int) (a1_2 : Int) (a1_3 : Int) (a1_4 : Int) (a1_5 : Int) (a1_6 : Int) (a1_7 : Int) (a1_8 : Bool) (A1_9 : Option Addr) (c1_9 : Nat) (l1_9 : List Int) (A2 : Option Addr) (c2 : Nat) (l2 : List Int) (r1 : List Int) (r2 : List Int) (r3 : Int) (w : World) (hr1_9 : Kd.C (Kd.int .i64) w A1_9 l1_9.length l1_9) (hc1_9 : l1_9.length ≤ c1_9) (hr2 : Kd.C (Kd.int .i64) w A2 l2.length l2) (hc2 : l2.length ≤ c2) (h : gradineref22_Sees.f k a0 a1_0 a1_1 a1_2 a1_3 a1_4 a1_5 a1_6 a1_7 a1_8 l1_9 l2 = some (r1, r2, r3)) :
  Calls Try.prog 24 #[.int .i64 a0, .agg #[.int .i64 a1_0, .int .i64 a1_1, .int .i64 a1_2, .int .i64 a1_3, .int .i64 a1_4, .int .i64 a1_5, .int .i64 a1_6, .int .i64 a1_7, .bool a1_8, .slice A1_9 l1_9.length c1_9], .slice A2 l2.length c2] w fun e w' => ∃ v0_ v1_ : Value, e = .returned (.tuple #[v0_, v1_, .int .i64 r3]) ∧ Kd.R (Kd.int .i64) 3 w' w.heap.size (fun k_ => some k_ ≠ (v1_ : Value).ownBlock) v0_ r1 ∧ Kd.R (Kd.int .i64) 3 w' w.heap.size (fun k_ => some k_ ≠ (v0_ : Value).ownBlock) v1_ r2 ∧ Below w.heap.size w w' := by
 have hu43 := Try.underlying43
 have HR1_9 := aM hr1_9
 have HC1_9 := aM hc1_9
 clear hr1_9 hc1_9
 have HR2 := aM hr2
 have HC2 := aM hc2
 clear hr2 hc2
 have HB := aM (Below.refl w.heap.size w)
 have H : (if a0 = 33 then ((gradineref22_Reshape.f k l2 l1_9).bind fun bt696 => (some (bt696.1, bt696.2.1, bt696.2.2))) else (if a0 = 34 then ((gradineref22_Permute.f k l2 l1_9).bind fun bt703 => (some (bt703.1, bt703.2.1, bt703.2.2))) else (if a0 = 35 then ((gradineref22_Slice.f k l2 a1_0 a1_1 a1_2 a1_3).bind fun bt710 => (some (bt710.1, bt710.2.1, bt710.2.2))) else (if a0 = 36 then ((gradineref22_Expand.f k l2 l1_9).bind fun bt717 => (some (bt717.1, bt717.2.1, bt717.2.2))) else (if a0 = 37 then ((gradineref22_Flip.f k l2 a1_0).bind fun bt724 => (some (bt724.1, bt724.2.1, bt724.2.2))) else (some (([] : List Int), ([] : List Int), 14))))))) = some (r1, r2, r3) := h
 clear h
 by_cases c4 : a0 = 33
 ·rw [if_pos c4] at H
  have c4b0 : (a0 == 33) = true := beq_iff_eq.mpr c4
  have c4b1 : (a0 != 33) = false := bne_eq_false_iff_eq.mpr c4
  clear c4
  replace H := Option.bind_eq_some_iff.mp H
  obtain ⟨⟨t696, t697, t698⟩, A50, H⟩ := H
  try dsimp only at H
  have A5 := aM A50
  clear A50
  simp only [Option.some.injEq, Prod.mk.injEq] at H
  obtain ⟨rfl, rfl, rfl⟩ := H
  go_enter Try.func24, Try.ntmps24
  go_wp2_with (first | ((with_reducible refine gate_dst (N := 4) rfl ?_); refine box_event ?hg (N := 4) ?hd (cs := #[.int .i64 a1_0, .int .i64 a1_1, .int .i64 a1_2, .int .i64 a1_3, .int .i64 a1_4, .int .i64 a1_5, .int .i64 a1_6, .int .i64 a1_7, .bool a1_8, .slice A1_9 l1_9.length c1_9]) (t := 43) ?hr ?_; (case hd => rfl); (case hg => rfl); (case hr => first | (go_simp; done) | (go_simp; rfl)); intro gb695 hg w6 hbox hb; have BK695 := aM (hbox); have GW695 := gE (w := w) hg (qB HB); have GE695 := GW695; replace HB := bS (qB HB) hb; clear hb hbox hg; obtain ⟨hcz7_0, hcz7_1, hcz7_2, hcz7_3, hcz7_4, hcz7_5, hcz7_6, hcz7_7, hcz7_8, hcz7_9, hfz7_0, hfz7_1, hfz7_2, hfz7_3, hfz7_4, hfz7_5, hfz7_6, hfz7_7, hfz7_8, hfz7_9⟩ := blk10 BK695.out) | ((with_reducible refine gate_callee (f := 48) rfl ?_); refine goesL_ (some 14) rfl rfl Try.func48 (by kernel_rfl) rfl #[.slice A2 l2.length c2, .slice A1_9 l1_9.length c1_9] rfl pA ?_; (with_reducible refine (gradineref22_Reshape.calls k _ _ l2 _ _ l1_9 t696 t697 t698 _ ?s1 ?s2 ?s3 ?s4 A5.out).mono ?_); (case s1 => exact sC HR2 HB); (case s2 => exact HC2.out); (case s3 => exact sC HR1_9 HB); (case s4 => exact HC1_9.out); rintro e w8 ⟨v699, v701, rfl, ho0, ho1, hb⟩; refine ⟨_, rfl, ?_⟩; have HO700 := aM (Kd.R_lower ho0 (below_size (qB1 HB GE695))); have HO702 := aM (Kd.R_lower ho1 (below_size (qB1 HB GE695))); replace BK695 := bK BK695 hb; replace HB := bS (qB1 HB GE695) hb; (try clear hb); (try clear hk); (try clear hi); (try clear ho0); (try clear ho1)))
  go_ret3
  exact ⟨_, _, pE, pR HO700.out, pR HO702.out, qB1 HB GE695⟩
 rw [if_neg c4] at H
 have c4b0 : (a0 == 33) = false := beq_eq_false_iff_ne.mpr c4
 have c4b1 : (a0 != 33) = true := bne_iff_ne.mpr c4
 by_cases c9 : a0 = 34
 ·rw [if_pos c9] at H
  have c9b0 : (a0 == 34) = true := beq_iff_eq.mpr c9
  have c9b1 : (a0 != 34) = false := bne_eq_false_iff_eq.mpr c9
  clear c9
  replace H := Option.bind_eq_some_iff.mp H
  obtain ⟨⟨t703, t704, t705⟩, A100, H⟩ := H
  try dsimp only at H
  have A10 := aM A100
  clear A100
  simp only [Option.some.injEq, Prod.mk.injEq] at H
  obtain ⟨rfl, rfl, rfl⟩ := H
  go_enter Try.func24, Try.ntmps24
  go_wp2_with (first | ((with_reducible refine gate_dst (N := 4) rfl ?_); refine box_event ?hg (N := 4) ?hd (cs := #[.int .i64 a1_0, .int .i64 a1_1, .int .i64 a1_2, .int .i64 a1_3, .int .i64 a1_4, .int .i64 a1_5, .int .i64 a1_6, .int .i64 a1_7, .bool a1_8, .slice A1_9 l1_9.length c1_9]) (t := 43) ?hr ?_; (case hd => rfl); (case hg => rfl); (case hr => first | (go_simp; done) | (go_simp; rfl)); intro gb695 hg w11 hbox hb; have BK695 := aM (hbox); have GW695 := gE (w := w) hg (qB HB); have GE695 := GW695; replace HB := bS (qB HB) hb; clear hb hbox hg; obtain ⟨hcz12_0, hcz12_1, hcz12_2, hcz12_3, hcz12_4, hcz12_5, hcz12_6, hcz12_7, hcz12_8, hcz12_9, hfz12_0, hfz12_1, hfz12_2, hfz12_3, hfz12_4, hfz12_5, hfz12_6, hfz12_7, hfz12_8, hfz12_9⟩ := blk10 BK695.out) | ((with_reducible refine gate_callee (f := 49) rfl ?_); refine goesL_ (some 23) rfl rfl Try.func49 (by kernel_rfl) rfl #[.slice A2 l2.length c2, .slice A1_9 l1_9.length c1_9] rfl pA ?_; (with_reducible refine (gradineref22_Permute.calls k _ _ l2 _ _ l1_9 t703 t704 t705 _ ?s1 ?s2 ?s3 ?s4 A10.out).mono ?_); (case s1 => exact sC HR2 HB); (case s2 => exact HC2.out); (case s3 => exact sC HR1_9 HB); (case s4 => exact HC1_9.out); rintro e w13 ⟨v706, v708, rfl, ho0, ho1, hb⟩; refine ⟨_, rfl, ?_⟩; have HO707 := aM (Kd.R_lower ho0 (below_size (qB1 HB GE695))); have HO709 := aM (Kd.R_lower ho1 (below_size (qB1 HB GE695))); replace BK695 := bK BK695 hb; replace HB := bS (qB1 HB GE695) hb; (try clear hb); (try clear hk); (try clear hi); (try clear ho0); (try clear ho1)))
  go_ret3
  exact ⟨_, _, pE, pR HO707.out, pR HO709.out, qB1 HB GE695⟩
 rw [if_neg c9] at H
 have c9b0 : (a0 == 34) = false := beq_eq_false_iff_ne.mpr c9
 have c9b1 : (a0 != 34) = true := bne_iff_ne.mpr c9
 by_cases c14 : a0 = 35
 ·rw [if_pos c14] at H
  have c14b0 : (a0 == 35) = true := beq_iff_eq.mpr c14
  have c14b1 : (a0 != 35) = false := bne_eq_false_iff_eq.mpr c14
  clear c14
  replace H := Option.bind_eq_some_iff.mp H
  obtain ⟨⟨t710, t711, t712⟩, A150, H⟩ := H
  try dsimp only at H
  have A15 := aM A150
  clear A150
  simp only [Option.some.injEq, Prod.mk.injEq] at H
  obtain ⟨rfl, rfl, rfl⟩ := H
  go_enter Try.func24, Try.ntmps24
  go_wp2_with (first | ((with_reducible refine gate_dst (N := 4) rfl ?_); refine box_event ?hg (N := 4) ?hd (cs := #[.int .i64 a1_0, .int .i64 a1_1, .int .i64 a1_2, .int .i64 a1_3, .int .i64 a1_4, .int .i64 a1_5, .int .i64 a1_6, .int .i64 a1_7, .bool a1_8, .slice A1_9 l1_9.length c1_9]) (t := 43) ?hr ?_; (case hd => rfl); (case hg => rfl); (case hr => first | (go_simp; done) | (go_simp; rfl)); intro gb695 hg w16 hbox hb; have BK695 := aM (hbox); have GW695 := gE (w := w) hg (qB HB); have GE695 := GW695; replace HB := bS (qB HB) hb; clear hb hbox hg; obtain ⟨hcz17_0, hcz17_1, hcz17_2, hcz17_3, hcz17_4, hcz17_5, hcz17_6, hcz17_7, hcz17_8, hcz17_9, hfz17_0, hfz17_1, hfz17_2, hfz17_3, hfz17_4, hfz17_5, hfz17_6, hfz17_7, hfz17_8, hfz17_9⟩ := blk10 BK695.out) | ((with_reducible refine gate_callee (f := 50) rfl ?_); refine goesL_ (some 38) rfl rfl Try.func50 (by kernel_rfl) rfl #[.slice A2 l2.length c2, .int .i64 a1_0, .int .i64 a1_1, .int .i64 a1_2, .int .i64 a1_3] rfl pA ?_; (with_reducible refine (gradineref22_Slice.calls k _ _ l2 a1_0 a1_1 a1_2 a1_3 t710 t711 t712 _ ?s1 ?s2 A15.out).mono ?_); (case s1 => exact sC HR2 HB); (case s2 => exact HC2.out); rintro e w18 ⟨v713, v715, rfl, ho0, ho1, hb⟩; refine ⟨_, rfl, ?_⟩; have HO714 := aM (Kd.R_lower ho0 (below_size (qB1 HB GE695))); have HO716 := aM (Kd.R_lower ho1 (below_size (qB1 HB GE695))); replace BK695 := bK BK695 hb; replace HB := bS (qB1 HB GE695) hb; (try clear hb); (try clear hk); (try clear hi); (try clear ho0); (try clear ho1)))
  go_ret3
  exact ⟨_, _, pE, pR HO714.out, pR HO716.out, qB1 HB GE695⟩
 rw [if_neg c14] at H
 have c14b0 : (a0 == 35) = false := beq_eq_false_iff_ne.mpr c14
 have c14b1 : (a0 != 35) = true := bne_iff_ne.mpr c14
 by_cases c19 : a0 = 36
 ·rw [if_pos c19] at H
  have c19b0 : (a0 == 36) = true := beq_iff_eq.mpr c19
  have c19b1 : (a0 != 36) = false := bne_eq_false_iff_eq.mpr c19
  clear c19
  replace H := Option.bind_eq_some_iff.mp H
  obtain ⟨⟨t717, t718, t719⟩, A200, H⟩ := H
  try dsimp only at H
  have A20 := aM A200
  clear A200
  simp only [Option.some.injEq, Prod.mk.injEq] at H
  obtain ⟨rfl, rfl, rfl⟩ := H
  go_enter Try.func24, Try.ntmps24
  go_wp2_with (first | ((with_reducible refine gate_dst (N := 4) rfl ?_); refine box_event ?hg (N := 4) ?hd (cs := #[.int .i64 a1_0, .int .i64 a1_1, .int .i64 a1_2, .int .i64 a1_3, .int .i64 a1_4, .int .i64 a1_5, .int .i64 a1_6, .int .i64 a1_7, .bool a1_8, .slice A1_9 l1_9.length c1_9]) (t := 43) ?hr ?_; (case hd => rfl); (case hg => rfl); (case hr => first | (go_simp; done) | (go_simp; rfl)); intro gb695 hg w21 hbox hb; have BK695 := aM (hbox); have GW695 := gE (w := w) hg (qB HB); have GE695 := GW695; replace HB := bS (qB HB) hb; clear hb hbox hg; obtain ⟨hcz22_0, hcz22_1, hcz22_2, hcz22_3, hcz22_4, hcz22_5, hcz22_6, hcz22_7, hcz22_8, hcz22_9, hfz22_0, hfz22_1, hfz22_2, hfz22_3, hfz22_4, hfz22_5, hfz22_6, hfz22_7, hfz22_8, hfz22_9⟩ := blk10 BK695.out) | ((with_reducible refine gate_callee (f := 51) rfl ?_); refine goesL_ (some 47) rfl rfl Try.func51 (by kernel_rfl) rfl #[.slice A2 l2.length c2, .slice A1_9 l1_9.length c1_9] rfl pA ?_; (with_reducible refine (gradineref22_Expand.calls k _ _ l2 _ _ l1_9 t717 t718 t719 _ ?s1 ?s2 ?s3 ?s4 A20.out).mono ?_); (case s1 => exact sC HR2 HB); (case s2 => exact HC2.out); (case s3 => exact sC HR1_9 HB); (case s4 => exact HC1_9.out); rintro e w23 ⟨v720, v722, rfl, ho0, ho1, hb⟩; refine ⟨_, rfl, ?_⟩; have HO721 := aM (Kd.R_lower ho0 (below_size (qB1 HB GE695))); have HO723 := aM (Kd.R_lower ho1 (below_size (qB1 HB GE695))); replace BK695 := bK BK695 hb; replace HB := bS (qB1 HB GE695) hb; (try clear hb); (try clear hk); (try clear hi); (try clear ho0); (try clear ho1)))
  go_ret3
  exact ⟨_, _, pE, pR HO721.out, pR HO723.out, qB1 HB GE695⟩
 rw [if_neg c19] at H
 have c19b0 : (a0 == 36) = false := beq_eq_false_iff_ne.mpr c19
 have c19b1 : (a0 != 36) = true := bne_iff_ne.mpr c19
 by_cases c24 : a0 = 37
 rotate_left
 ·rw [if_neg c24] at H
  have c24b0 : (a0 == 37) = false := beq_eq_false_iff_ne.mpr c24
  have c24b1 : (a0 != 37) = true := bne_iff_ne.mpr c24
  simp only [Option.some.injEq, Prod.mk.injEq] at H
  obtain ⟨rfl, rfl, rfl⟩ := H
  go_enter Try.func24, Try.ntmps24
  go_wp2_with (first | ((with_reducible refine gate_dst (N := 4) rfl ?_); refine box_event ?hg (N := 4) ?hd (cs := #[.int .i64 a1_0, .int .i64 a1_1, .int .i64 a1_2, .int .i64 a1_3, .int .i64 a1_4, .int .i64 a1_5, .int .i64 a1_6, .int .i64 a1_7, .bool a1_8, .slice A1_9 l1_9.length c1_9]) (t := 43) ?hr ?_; (case hd => rfl); (case hg => rfl); (case hr => first | (go_simp; done) | (go_simp; rfl)); intro gb695 hg w29 hbox hb; have BK695 := aM (hbox); have GW695 := gE (w := w) hg (qB HB); have GE695 := GW695; replace HB := bS (qB HB) hb; clear hb hbox hg))
  go_ret3
  exact ⟨_, _, pE, pN, pN, qB1 HB GE695⟩
 rw [if_pos c24] at H
 have c24b0 : (a0 == 37) = true := beq_iff_eq.mpr c24
 have c24b1 : (a0 != 37) = false := bne_eq_false_iff_eq.mpr c24
 clear c24
 replace H := Option.bind_eq_some_iff.mp H
 obtain ⟨⟨t724, t725, t726⟩, A250, H⟩ := H
 try dsimp only at H
 have A25 := aM A250
 clear A250
 simp only [Option.some.injEq, Prod.mk.injEq] at H
 obtain ⟨rfl, rfl, rfl⟩ := H
 go_enter Try.func24, Try.ntmps24
 go_wp2_with (first | ((with_reducible refine gate_dst (N := 4) rfl ?_); refine box_event ?hg (N := 4) ?hd (cs := #[.int .i64 a1_0, .int .i64 a1_1, .int .i64 a1_2, .int .i64 a1_3, .int .i64 a1_4, .int .i64 a1_5, .int .i64 a1_6, .int .i64 a1_7, .bool a1_8, .slice A1_9 l1_9.length c1_9]) (t := 43) ?hr ?_; (case hd => rfl); (case hg => rfl); (case hr => first | (go_simp; done) | (go_simp; rfl)); intro gb695 hg w26 hbox hb; have BK695 := aM (hbox); have GW695 := gE (w := w) hg (qB HB); have GE695 := GW695; replace HB := bS (qB HB) hb; clear hb hbox hg; obtain ⟨hcz27_0, hcz27_1, hcz27_2, hcz27_3, hcz27_4, hcz27_5, hcz27_6, hcz27_7, hcz27_8, hcz27_9, hfz27_0, hfz27_1, hfz27_2, hfz27_3, hfz27_4, hfz27_5, hfz27_6, hfz27_7, hfz27_8, hfz27_9⟩ := blk10 BK695.out) | ((with_reducible refine gate_callee (f := 52) rfl ?_); refine goesL_ (some 56) rfl rfl Try.func52 (by kernel_rfl) rfl #[.slice A2 l2.length c2, .int .i64 a1_0] rfl pA ?_; (with_reducible refine (gradineref22_Flip.calls k _ _ l2 a1_0 t724 t725 t726 _ ?s1 ?s2 A25.out).mono ?_); (case s1 => exact sC HR2 HB); (case s2 => exact HC2.out); rintro e w28 ⟨v727, v729, rfl, ho0, ho1, hb⟩; refine ⟨_, rfl, ?_⟩; have HO728 := aM (Kd.R_lower ho0 (below_size (qB1 HB GE695))); have HO730 := aM (Kd.R_lower ho1 (below_size (qB1 HB GE695))); replace BK695 := bK BK695 hb; replace HB := bS (qB1 HB GE695) hb; (try clear hb); (try clear hk); (try clear hi); (try clear ho0); (try clear ho1)))
 go_ret3
 exact ⟨_, _, pE, pR HO728.out, pR HO730.out, qB1 HB GE695⟩
mutual
def gradinelaw22_ViewViews.j0 : Nat → Int → Bool → Int → List Int → List Int → Int → Int → Int → Int → Int → Int → Int → Int → Bool → List Int → Option (Bool)
 | 0, _, _, _, _, _, _, _, _, _, _, _, _, _, _, _ => none
 | k + 1, x1, x28, x737000, x737001, x737002, x738000, x738001, x738002, x738003, x738004, x738005, x738006, x738007, x738008, x738009 => if x28 = true then ((gradinelaw22_same.f).bind fun t739 => (some t739)) else ((gradinelaw22_seen.f k x737000 x737001 x737002 x1 x738000 x738001 x738002 x738003 x738004 x738005 x738006 x738007 x738008 x738009).bind fun bt740 => ((gradineref22_Cells.f k x737000 x737001 x737002 64).bind fun t749 => (if (t749.length : Int) = 0 then (if bt740.2.2.2 = 1 then (if (wrap64 ((wrap64 ((bt740.2.1.length : Int) + (bt740.2.2.1.length : Int))) + bt740.1)) = 0 then ((gradinelaw22_same.f).bind fun t752 => (some t752)) else (some false)) else (some false)) else ((gradineref22_Sees.f k x1 x738000 x738001 x738002 x738003 x738004 x738005 x738006 x738007 x738008 x738009 x737001).bind fun bt753 => (if bt753.2.2 = 0 then (if x1 = 33 then ((gradineref22_Row.f k t749).bind fun t760 => (gradinelaw22_ViewViews.j1 k bt740.2.2.2 t749 bt753.1 bt753.2.1 bt753.2.2 (!t760) bt740.1 bt740.2.1 bt740.2.2.1)) else (gradinelaw22_ViewViews.j1 k bt740.2.2.2 t749 bt753.1 bt753.2.1 bt753.2.2 false bt740.1 bt740.2.1 bt740.2.2.1)) else (gradinelaw22_ViewViews.j1 k bt740.2.2.2 t749 bt753.1 bt753.2.1 bt753.2.2 false bt740.1 bt740.2.1 bt740.2.2.1))))))
def gradinelaw22_ViewViews.j1 : Nat → Int → List Int → List Int → List Int → Int → Bool → Int → List Int → List Int → Option (Bool)
 | 0, _, _, _, _, _, _, _, _, _ => none
 | k + 1, x8, x9, x10, x11, x12, x79, x749000, x749001, x749002 => if x79 = true then (gradinelaw22_ViewViews.j2 k x8 x9 x10 x11 19 x749000 x749001 x749002) else (gradinelaw22_ViewViews.j2 k x8 x9 x10 x11 x12 x749000 x749001 x749002)
def gradinelaw22_ViewViews.j2 : Nat → Int → List Int → List Int → List Int → Int → Int → List Int → List Int → Option (Bool)
 | 0, _, _, _, _, _, _, _, _ => none
 | k + 1, x8, x9, x10, x11, x12, x749000, x749001, x749002 => if x12 = 0 then (if x8 = 0 then ((gradineplain_Ints.f k x749001 x10).bind fun t762 => (if t762 = true then ((gradineref22_Cells.f k x749000 x749001 x749002 64).bind fun t763 => ((gradineref22_Pick.f k x9 x11).bind fun t766 => ((gradineplain_Ints.f k t763 t766).bind fun t769 => (if t769 = true then ((gradinelaw22_same.f).bind fun t770 => (some t770)) else (some false))))) else (some false))) else (some false)) else (if x8 = x12 then (if (wrap64 ((wrap64 ((x749001.length : Int) + (x749002.length : Int))) + x749000)) = 0 then ((gradinelaw22_same.f).bind fun t761 => (some t761)) else (some false)) else (some false))
end
def gradinelaw22_ViewViews.f (k : Nat) (a0_0 : Int) (l0_1 : List Int) (l0_2 : List Int) (a1 : Int) (a2_0 : Int) (a2_1 : Int) (a2_2 : Int) (a2_3 : Int) (a2_4 : Int) (a2_5 : Int) (a2_6 : Int) (a2_7 : Int) (a2_8 : Bool) (l2_9 : List Int) : Option (Bool) := (gradinelaw22_Many.f a0_0 l0_1 l0_2).bind fun t738 => (if t738 = true then (gradinelaw22_ViewViews.j0 k a1 true a0_0 l0_1 l0_2 a2_0 a2_1 a2_2 a2_3 a2_4 a2_5 a2_6 a2_7 a2_8 l2_9) else (if (l2_9.length : Int) > 20 then (gradinelaw22_ViewViews.j0 k a1 true a0_0 l0_1 l0_2 a2_0 a2_1 a2_2 a2_3 a2_4 a2_5 a2_6 a2_7 a2_8 l2_9) else (if a1 < 33 then (gradinelaw22_ViewViews.j0 k a1 true a0_0 l0_1 l0_2 a2_0 a2_1 a2_2 a2_3 a2_4 a2_5 a2_6 a2_7 a2_8 l2_9) else (gradinelaw22_ViewViews.j0 k a1 (decide (a1 > 37)) a0_0 l0_1 l0_2 a2_0 a2_1 a2_2 a2_3 a2_4 a2_5 a2_6 a2_7 a2_8 l2_9))))
set_option maxHeartbeats 8000000 in
set_option maxRecDepth 100000 in
theorem gradinelaw22_ViewViews.calls (k : Nat) (a0_0 : Int) (A0_1 : Option Addr) (c0_1 : Nat) (l0_1 : List Int) (A0_2 : Option Addr) (c0_2 : Nat) (l0_2 : List Int) (a1 : Int) (a2_0 : Int) (a2_1 : Int) (a2_2 : Int) (a2_3 : Int) (a2_4 : Int) (a2_5 : Int) (a2_6 : Int) (a2_7 : Int) (a2_8 : Bool) (A2_9 : Option Addr) (c2_9 : Nat) (l2_9 : List Int) (w : World) (hr0_1 : Kd.C (Kd.int .i64) w A0_1 l0_1.length l0_1) (hc0_1 : l0_1.length ≤ c0_1) (hr0_2 : Kd.C (Kd.int .i64) w A0_2 l0_2.length l0_2) (hc0_2 : l0_2.length ≤ c0_2) (hr2_9 : Kd.C (Kd.int .i64) w A2_9 l2_9.length l2_9) (hc2_9 : l2_9.length ≤ c2_9) (h : gradinelaw22_ViewViews.f k a0_0 l0_1 l0_2 a1 a2_0 a2_1 a2_2 a2_3 a2_4 a2_5 a2_6 a2_7 a2_8 l2_9 = some true) :
  Calls Try.prog 5 #[.agg #[.int .i64 a0_0, .slice A0_1 l0_1.length c0_1, .slice A0_2 l0_2.length c0_2], .int .i64 a1, .agg #[.int .i64 a2_0, .int .i64 a2_1, .int .i64 a2_2, .int .i64 a2_3, .int .i64 a2_4, .int .i64 a2_5, .int .i64 a2_6, .int .i64 a2_7, .bool a2_8, .slice A2_9 l2_9.length c2_9]] w fun e w' => e = .returned (.bool true) ∧ Below w.heap.size w w' := by
 have hu24 := Try.underlying24
 have hu43 := Try.underlying43
 have HR0_1 := aM hr0_1
 have HC0_1 := aM hc0_1
 clear hr0_1 hc0_1
 have HR0_2 := aM hr0_2
 have HC0_2 := aM hc0_2
 clear hr0_2 hc0_2
 have HR2_9 := aM hr2_9
 have HC2_9 := aM hc2_9
 clear hr2_9 hc2_9
 have HB := aM (Below.refl w.heap.size w)
 have H : ((gradinelaw22_Many.f a0_0 l0_1 l0_2).bind fun t738 => (if t738 = true then (gradinelaw22_ViewViews.j0 k a1 true a0_0 l0_1 l0_2 a2_0 a2_1 a2_2 a2_3 a2_4 a2_5 a2_6 a2_7 a2_8 l2_9) else (if (l2_9.length : Int) > 20 then (gradinelaw22_ViewViews.j0 k a1 true a0_0 l0_1 l0_2 a2_0 a2_1 a2_2 a2_3 a2_4 a2_5 a2_6 a2_7 a2_8 l2_9) else (if a1 < 33 then (gradinelaw22_ViewViews.j0 k a1 true a0_0 l0_1 l0_2 a2_0 a2_1 a2_2 a2_3 a2_4 a2_5 a2_6 a2_7 a2_8 l2_9) else (gradinelaw22_ViewViews.j0 k a1 (decide (a1 > 37)) a0_0 l0_1 l0_2 a2_0 a2_1 a2_2 a2_3 a2_4 a2_5 a2_6 a2_7 a2_8 l2_9))))) = some true := h
 clear h
 have HC4 := aM H
 clear H
 go_enter Try.func5, Try.ntmps5
 go_upto_region 1 with (first | ((with_reducible refine gate_dst (N := 3) rfl ?_); (try (refine gate_guard (by rfl) ?_; dsimp only)); refine box_event ?hg (N := 3) ?hd (cs := #[.int .i64 a0_0, .slice A0_1 l0_1.length c0_1, .slice A0_2 l0_2.length c0_2]) (t := 24) ?hr ?_; (case hd => rfl); (case hg => rfl); (case hr => first | (go_simp; done) | (go_simp; rfl)); intro gb736 hg w5 hbox hb; have BK736 := aM (hbox); have GW736 := gE (w := w) hg (qB HB); have GE736 := GW736; replace HB := bS (qB HB) hb; clear hb hbox hg) | ((with_reducible refine gate_dst (N := 5) rfl ?_); (try (refine gate_guard (by rfl) ?_; dsimp only)); refine box_event ?hg (N := 5) ?hd (cs := #[.int .i64 a2_0, .int .i64 a2_1, .int .i64 a2_2, .int .i64 a2_3, .int .i64 a2_4, .int .i64 a2_5, .int .i64 a2_6, .int .i64 a2_7, .bool a2_8, .slice A2_9 l2_9.length c2_9]) (t := 43) ?hr ?_; (case hd => rfl); (case hg => rfl); (case hr => first | (go_simp; done) | (go_simp; rfl)); intro gb737 hg w6 hbox hb; have BK737 := aM (hbox); have GW737 := gE (w := w) hg (qB1 HB GE736); have GE737 := GW737; replace HB := bS (qB1 HB GE736) hb; have NB736_737 := nL hg BK736; have NB737_736 := nG hg BK736; replace BK736 := bK BK736 hb; clear hb hbox hg))
 (try simp only [Act.put, sP])
 go_cut [28] (fun v28 wc => ∃ (kq : Nat) (x28_3 : Bool), v28 = .bool x28_3 ∧ Aside0 (gradinelaw22_ViewViews.j0 kq a1 x28_3 a0_0 l0_1 l0_2 a2_0 a2_1 a2_2 a2_3 a2_4 a2_5 a2_6 a2_7 a2_8 l2_9 = some true) ∧ Aside0 (kq ≤ k) ∧ Aside0 (wc.heap[gb736]? = some (.cells #[.int .i64 a0_0, (.slice A0_1 l0_1.length c0_1), (.slice A0_2 l0_2.length c0_2)] 24 (0, 0))) ∧ Aside0 (wc.heap[gb737]? = some (.cells #[.int .i64 a2_0, .int .i64 a2_1, .int .i64 a2_2, .int .i64 a2_3, .int .i64 a2_4, .int .i64 a2_5, .int .i64 a2_6, .int .i64 a2_7, .bool a2_8, (.slice A2_9 l2_9.length c2_9)] 43 (0, 0))) ∧ Aside0 (Below w.heap.size w wc))
 case first =>
  have H := HC4.out
  clear HC4
  replace H := Option.bind_eq_some_iff.mp H
  obtain ⟨t738, A70, H⟩ := H
  try dsimp only at H
  have A7 := aM A70
  clear A70
  by_cases c8 : t738 = true
  ·subst c8
   rw [if_pos rfl] at H
   have H' := aM H
   clear H
   have hnb9 := NB736_737.out
   have hnc9 := NB737_736.out
   obtain ⟨hcz10_0, hcz10_1, hcz10_2, hfz10_0, hfz10_1, hfz10_2⟩ := blk3 BK736.out
   go_wp2_with (first | ((with_reducible refine gate_callee (f := 8) rfl ?_); refine goesL_ (some 14) rfl rfl Try.func8 (by kernel_rfl) rfl #[.agg #[.int .i64 a0_0, .slice A0_1 l0_1.length c0_1, .slice A0_2 l0_2.length c0_2]] rfl pA ?_; (with_reducible refine (gradinelaw22_Many.calls a0_0 _ _ l0_1 _ _ l0_2 true _ ?s1 ?s2 ?s3 ?s4 A7.out).mono ?_); (case s1 => exact sC HR0_1 HB); (case s2 => exact HC0_1.out); (case s3 => exact sC HR0_2 HB); (case s4 => exact HC0_2.out); rintro e w11 ⟨rfl, hb⟩; refine ⟨_, rfl, ?_⟩; replace BK736 := bK BK736 hb; replace BK737 := bK BK737 hb; replace HB := bS (qB2 HB GE736 GE737) hb; (try clear hb); (try clear hk); (try clear hi)))
   go_meet
   case rel => exact ⟨_, (true), (pF), H', ⟨by first | omega | exact Nat.le_refl _⟩, ⟨by (with_reducible repeat (first | apply bN | apply bD | apply bA)); exact BK736.out⟩, ⟨by (with_reducible repeat (first | apply bN | apply bD | apply bA)); exact BK737.out⟩, ⟨qB2 HB GE736 GE737⟩⟩
  replace c8 := Bool.eq_false_iff.mpr c8
  subst c8
  rw [if_neg (show ¬ (false = true) by decide)] at H
  by_cases c12 : (l2_9.length : Int) > 20
  ·rw [if_pos c12] at H
   have c12b0 : decide (20 < (l2_9.length : Int)) = true := decide_eq_true c12
   have c12b1 : decide (20 < l2_9.length) = true := decide_eq_true (by omega)
   clear c12
   (first | rw [c12b0] | (simp only [i64_w, i32_w]; rw [c12b0]) | skip)
   have H' := aM H
   clear H
   have hnb13 := NB736_737.out
   have hnc13 := NB737_736.out
   obtain ⟨hcz14_0, hcz14_1, hcz14_2, hfz14_0, hfz14_1, hfz14_2⟩ := blk3 BK736.out
   go_wp2_with (first | ((with_reducible refine gate_callee (f := 8) rfl ?_); refine goesL_ (some 14) rfl rfl Try.func8 (by kernel_rfl) rfl #[.agg #[.int .i64 a0_0, .slice A0_1 l0_1.length c0_1, .slice A0_2 l0_2.length c0_2]] rfl pA ?_; (with_reducible refine (gradinelaw22_Many.calls a0_0 _ _ l0_1 _ _ l0_2 false _ ?s1 ?s2 ?s3 ?s4 A7.out).mono ?_); (case s1 => exact sC HR0_1 HB); (case s2 => exact HC0_1.out); (case s3 => exact sC HR0_2 HB); (case s4 => exact HC0_2.out); rintro e w15 ⟨rfl, hb⟩; refine ⟨_, rfl, ?_⟩; replace BK736 := bK BK736 hb; replace BK737 := bK BK737 hb; replace HB := bS (qB2 HB GE736 GE737) hb; (try clear hb); (try clear hk); (try clear hi); obtain ⟨hcz16_0, hcz16_1, hcz16_2, hcz16_3, hcz16_4, hcz16_5, hcz16_6, hcz16_7, hcz16_8, hcz16_9, hfz16_0, hfz16_1, hfz16_2, hfz16_3, hfz16_4, hfz16_5, hfz16_6, hfz16_7, hfz16_8, hfz16_9⟩ := blk10 BK737.out))
   go_meet
   case rel => exact ⟨_, (true), (pF), H', ⟨by first | omega | exact Nat.le_refl _⟩, ⟨by (with_reducible repeat (first | apply bN | apply bD | apply bA)); exact BK736.out⟩, ⟨by (with_reducible repeat (first | apply bN | apply bD | apply bA)); exact BK737.out⟩, ⟨qB2 HB GE736 GE737⟩⟩
  rw [if_neg c12] at H
  have c12b0 : decide (20 < (l2_9.length : Int)) = false := decide_eq_false c12
  have c12b1 : decide (20 < l2_9.length) = false := decide_eq_false (by omega)
  clear c12
  (first | rw [c12b0] | (simp only [i64_w, i32_w]; rw [c12b0]) | skip)
  by_cases c17 : a1 < 33
  ·rw [if_pos c17] at H
   have c17b0 : decide (a1 < 33) = true := decide_eq_true c17
   clear c17
   have H' := aM H
   clear H
   have hnb18 := NB736_737.out
   have hnc18 := NB737_736.out
   obtain ⟨hcz19_0, hcz19_1, hcz19_2, hfz19_0, hfz19_1, hfz19_2⟩ := blk3 BK736.out
   go_wp2_with (first | ((with_reducible refine gate_callee (f := 8) rfl ?_); refine goesL_ (some 14) rfl rfl Try.func8 (by kernel_rfl) rfl #[.agg #[.int .i64 a0_0, .slice A0_1 l0_1.length c0_1, .slice A0_2 l0_2.length c0_2]] rfl pA ?_; (with_reducible refine (gradinelaw22_Many.calls a0_0 _ _ l0_1 _ _ l0_2 false _ ?s1 ?s2 ?s3 ?s4 A7.out).mono ?_); (case s1 => exact sC HR0_1 HB); (case s2 => exact HC0_1.out); (case s3 => exact sC HR0_2 HB); (case s4 => exact HC0_2.out); rintro e w20 ⟨rfl, hb⟩; refine ⟨_, rfl, ?_⟩; replace BK736 := bK BK736 hb; replace BK737 := bK BK737 hb; replace HB := bS (qB2 HB GE736 GE737) hb; (try clear hb); (try clear hk); (try clear hi); obtain ⟨hcz21_0, hcz21_1, hcz21_2, hcz21_3, hcz21_4, hcz21_5, hcz21_6, hcz21_7, hcz21_8, hcz21_9, hfz21_0, hfz21_1, hfz21_2, hfz21_3, hfz21_4, hfz21_5, hfz21_6, hfz21_7, hfz21_8, hfz21_9⟩ := blk10 BK737.out))
   go_meet
   case rel => exact ⟨_, (true), (pF), H', ⟨by first | omega | exact Nat.le_refl _⟩, ⟨by (with_reducible repeat (first | apply bN | apply bD | apply bA)); exact BK736.out⟩, ⟨by (with_reducible repeat (first | apply bN | apply bD | apply bA)); exact BK737.out⟩, ⟨qB2 HB GE736 GE737⟩⟩
  rw [if_neg c17] at H
  have c17b0 : decide (a1 < 33) = false := decide_eq_false c17
  clear c17
  have H' := aM H
  clear H
  have hnb22 := NB736_737.out
  have hnc22 := NB737_736.out
  obtain ⟨hcz23_0, hcz23_1, hcz23_2, hfz23_0, hfz23_1, hfz23_2⟩ := blk3 BK736.out
  go_wp2_with (first | ((with_reducible refine gate_callee (f := 8) rfl ?_); refine goesL_ (some 14) rfl rfl Try.func8 (by kernel_rfl) rfl #[.agg #[.int .i64 a0_0, .slice A0_1 l0_1.length c0_1, .slice A0_2 l0_2.length c0_2]] rfl pA ?_; (with_reducible refine (gradinelaw22_Many.calls a0_0 _ _ l0_1 _ _ l0_2 false _ ?s1 ?s2 ?s3 ?s4 A7.out).mono ?_); (case s1 => exact sC HR0_1 HB); (case s2 => exact HC0_1.out); (case s3 => exact sC HR0_2 HB); (case s4 => exact HC0_2.out); rintro e w24 ⟨rfl, hb⟩; refine ⟨_, rfl, ?_⟩; replace BK736 := bK BK736 hb; replace BK737 := bK BK737 hb; replace HB := bS (qB2 HB GE736 GE737) hb; (try clear hb); (try clear hk); (try clear hi); obtain ⟨hcz25_0, hcz25_1, hcz25_2, hcz25_3, hcz25_4, hcz25_5, hcz25_6, hcz25_7, hcz25_8, hcz25_9, hfz25_0, hfz25_1, hfz25_2, hfz25_3, hfz25_4, hfz25_5, hfz25_6, hfz25_7, hfz25_8, hfz25_9⟩ := blk10 BK737.out))
  go_meet
  case rel => exact ⟨_, (decide (a1 > 37)), (pF), H', ⟨by first | omega | exact Nat.le_refl _⟩, ⟨by (with_reducible repeat (first | apply bN | apply bD | apply bA)); exact BK736.out⟩, ⟨by (with_reducible repeat (first | apply bN | apply bD | apply bA)); exact BK737.out⟩, ⟨qB2 HB GE736 GE737⟩⟩
 case rest =>
  clear HC4
  obtain ⟨kq, x28_3, rfl, HA, HJ3, BK736, BK737, HB⟩ := hcut
  cases kq with
  | zero => exact absurd HA.out (by simp [gradinelaw22_ViewViews.j0])
  | succ kj3 =>
   have H := HA.out
   clear HA
   simp only [gradinelaw22_ViewViews.j0] at H
   by_cases c26 : x28_3 = true
   ·subst c26
    rw [if_pos rfl] at H
    replace H := Option.bind_eq_some_iff.mp H
    obtain ⟨t739, A270, H⟩ := H
    try dsimp only at H
    have A27 := aM A270
    clear A270
    have hv_ := aM (Option.some.inj H)
    clear H
    go_wp2_with (first | ((with_reducible refine gate_callee (f := 9) rfl ?_); refine goesL_ (some 29) rfl rfl Try.func9 (by kernel_rfl) rfl #[] rfl pA ?_; (with_reducible refine (gradinelaw22_same.calls  t739 _ A27.out).mono ?_); rintro e w28 ⟨rfl, hb⟩; refine ⟨_, rfl, ?_⟩; replace BK736 := bK BK736 hb; replace BK737 := bK BK737 hb; replace HB := bS (qB2 HB GE736 GE737) hb; (try clear hb); (try clear hk); (try clear hi)))
    go_ret
    replace hv_ := hv_.out
    exact ⟨pE, qB2 HB GE736 GE737⟩
   replace c26 := Bool.eq_false_iff.mpr c26
   subst c26
   rw [if_neg (show ¬ (false = true) by decide)] at H
   replace H := Option.bind_eq_some_iff.mp H
   obtain ⟨⟨t740, t741, t744, t747⟩, A290, H⟩ := H
   try dsimp only at H
   have A29 := aM A290
   clear A290
   replace H := Option.bind_eq_some_iff.mp H
   obtain ⟨t749, A300, H⟩ := H
   try dsimp only at H
   have A30 := aM A300
   clear A300
   by_cases c31 : (t749.length : Int) = 0
   ·rw [if_pos c31] at H
    have c31b0 : ((t749.length : Int) == 0) = true := beq_iff_eq.mpr c31
    have c31b1 : ((t749.length : Int) != 0) = false := bne_eq_false_iff_eq.mpr c31
    clear c31
    by_cases c32 : t747 = 1
    rotate_left
    ·rw [if_neg c32] at H
     have c32b0 : (t747 == 1) = false := beq_eq_false_iff_ne.mpr c32
     have c32b1 : (t747 != 1) = true := bne_iff_ne.mpr c32
     exact absurd H (by simp)
    rw [if_pos c32] at H
    have c32b0 : (t747 == 1) = true := beq_iff_eq.mpr c32
    have c32b1 : (t747 != 1) = false := bne_eq_false_iff_eq.mpr c32
    clear c32
    by_cases c33 : (wrap64 ((wrap64 ((t741.length : Int) + (t744.length : Int))) + t740)) = 0
    rotate_left
    ·rw [if_neg c33] at H
     have c33b0 : ((wrap64 ((wrap64 ((t741.length : Int) + (t744.length : Int))) + t740)) == 0) = false := beq_eq_false_iff_ne.mpr c33
     have c33b1 : ((wrap64 ((wrap64 ((t741.length : Int) + (t744.length : Int))) + t740)) != 0) = true := bne_iff_ne.mpr c33
     exact absurd H (by simp)
    rw [if_pos c33] at H
    have c33b0 : ((wrap64 ((wrap64 ((t741.length : Int) + (t744.length : Int))) + t740)) == 0) = true := beq_iff_eq.mpr c33
    have c33b1 : ((wrap64 ((wrap64 ((t741.length : Int) + (t744.length : Int))) + t740)) != 0) = false := bne_eq_false_iff_eq.mpr c33
    clear c33
    replace H := Option.bind_eq_some_iff.mp H
    obtain ⟨t752, A340, H⟩ := H
    try dsimp only at H
    have A34 := aM A340
    clear A340
    have hv_ := aM (Option.some.inj H)
    clear H
    have hnb35 := NB736_737.out
    have hnc35 := NB737_736.out
    obtain ⟨hcz36_0, hcz36_1, hcz36_2, hfz36_0, hfz36_1, hfz36_2⟩ := blk3 BK736.out
    obtain ⟨hcz37_0, hcz37_1, hcz37_2, hcz37_3, hcz37_4, hcz37_5, hcz37_6, hcz37_7, hcz37_8, hcz37_9, hfz37_0, hfz37_1, hfz37_2, hfz37_3, hfz37_4, hfz37_5, hfz37_6, hfz37_7, hfz37_8, hfz37_9⟩ := blk10 BK737.out
    go_wp2_with (first | ((with_reducible refine gate_callee (f := 23) rfl ?_); refine goesL_ (some 34) rfl rfl Try.func23 (by kernel_rfl) rfl #[.agg #[.int .i64 a0_0, .slice A0_1 l0_1.length c0_1, .slice A0_2 l0_2.length c0_2], .int .i64 a1, .agg #[.int .i64 a2_0, .int .i64 a2_1, .int .i64 a2_2, .int .i64 a2_3, .int .i64 a2_4, .int .i64 a2_5, .int .i64 a2_6, .int .i64 a2_7, .bool a2_8, .slice A2_9 l2_9.length c2_9]] rfl pA ?_; (with_reducible refine (gradinelaw22_seen.calls kj3 a0_0 _ _ l0_1 _ _ l0_2 a1 a2_0 a2_1 a2_2 a2_3 a2_4 a2_5 a2_6 a2_7 a2_8 _ _ l2_9 t740 t741 t744 t747 _ ?s1 ?s2 ?s3 ?s4 ?s5 ?s6 A29.out).mono ?_); (case s1 => exact sC HR0_1 HB); (case s2 => exact HC0_1.out); (case s3 => exact sC HR0_2 HB); (case s4 => exact HC0_2.out); (case s5 => exact sC HR2_9 HB); (case s6 => exact HC2_9.out); rintro e w38 ⟨v742, v745, rfl, ho0, ho1, hb⟩; refine ⟨_, rfl, ?_⟩; have HO743 := aM (Kd.R_lower ho0 (below_size (qB2 HB GE736 GE737))); have HO746 := aM (Kd.R_lower ho1 (below_size (qB2 HB GE736 GE737))); replace BK736 := bK BK736 hb; replace BK737 := bK BK737 hb; replace HB := bS (qB2 HB GE736 GE737) hb; (try clear hb); (try clear hk); (try clear hi); (try clear ho0); (try clear ho1)) | ((with_reducible refine gate_dst (N := 7) rfl ?_); (try (refine gate_guard (by rfl) ?_; dsimp only)); refine box_event ?hg (N := 7) ?hd (cs := #[.int .i64 0, .slice none 0 0, .slice none 0 0]) (t := 24) ?hr ?_; (case hd => rfl); (case hg => rfl); (case hr => first | (go_simp; done) | (go_simp; rfl)); intro gb748 hg w39 hbox hb; replace HO743 := bR HO743 hb; replace HO746 := bR HO746 hb; have BK748 := aM (hbox); have GW748 := gE (w := w) hg (qB2 HB GE736 GE737); have GE748 := GW748; replace HB := bS (qB2 HB GE736 GE737) hb; have NB736_748 := nL hg BK736; have NB748_736 := nG hg BK736; replace BK736 := bK BK736 hb; have NB737_748 := nL hg BK737; have NB748_737 := nG hg BK737; replace BK737 := bK BK737 hb; clear hb hbox hg; have hnb40 := NB748_736.out; have hnc40 := NB736_748.out; have hnb41 := NB748_737.out; have hnc41 := NB737_748.out; obtain ⟨hcz42_0, hcz42_1, hcz42_2, hfz42_0, hfz42_1, hfz42_2⟩ := blk3 BK748.out; obtain ⟨Ao43, co43, eo43⟩ := Kd.R_slice HO743.out; subst eo43; obtain ⟨Ao44, co44, eo44⟩ := Kd.R_slice HO746.out; subst eo44; obtain ⟨hcz45_0, hcz45_1, hcz45_2, hfz45_0, hfz45_1, hfz45_2⟩ := blk3 BK736.out) | ((with_reducible refine gate_callee (f := 10) rfl ?_); refine goesL_ (some 38) rfl rfl Try.func10 (by kernel_rfl) rfl #[.agg #[.int .i64 a0_0, .slice A0_1 l0_1.length c0_1, .slice A0_2 l0_2.length c0_2], .int .i64 64] rfl pA ?_; (with_reducible refine (gradineref22_Cells.calls kj3 a0_0 _ _ l0_1 _ _ l0_2 64 t749 _ ?s1 ?s2 ?s3 ?s4 A30.out).mono ?_); (case s1 => exact Kd.C_below HR0_1.out (qB3 HB GE736 GE737 GE748)); (case s2 => exact HC0_1.out); (case s3 => exact Kd.C_below HR0_2.out (qB3 HB GE736 GE737 GE748)); (case s4 => exact HC0_2.out); rintro e w46 ⟨v750, rfl, ho0, hb⟩; refine ⟨_, rfl, ?_⟩; have HO751 := aM (Kd.R_lower (Kd.R_new' (Kd.R_new' ho0 (Kd.R_lt (by (with_reducible repeat (first | apply rA | apply rN | apply rD)); exact (F3 HO743 BK748 (fun _ h_ => h_.1))))) (Kd.R_lt (by (with_reducible repeat (first | apply rA | apply rN | apply rD)); exact (F3 HO746 BK748 (fun _ h_ => h_.1))))) (below_size (qB3 HB GE736 GE737 GE748))); replace HO743 := aM (Kd.R_elder' (by (with_reducible repeat (first | apply rA | apply rN | apply rD)); exact (F3 HO743 BK748 (fun _ h_ => h_.1))) (Kd.R_base ho0) hb); replace HO746 := aM (Kd.R_elder' (by (with_reducible repeat (first | apply rA | apply rN | apply rD)); exact (F3 HO746 BK748 (fun _ h_ => h_.1))) (Kd.R_base ho0) hb); replace BK736 := aM (blk_below (g := gb736) (o := .cells #[.int .i64 a0_0, .slice A0_1 l0_1.length c0_1, .slice A0_2 l0_2.length c0_2] 24 (0, 0)) (by refine B3 NB736_748 ?_; exact BK736.out) hb); replace BK737 := aM (blk_below (g := gb737) (o := .cells #[.int .i64 a2_0, .int .i64 a2_1, .int .i64 a2_2, .int .i64 a2_3, .int .i64 a2_4, .int .i64 a2_5, .int .i64 a2_6, .int .i64 a2_7, .bool a2_8, .slice A2_9 l2_9.length c2_9] 43 (0, 0)) (by refine B3 NB737_748 ?_; exact BK737.out) hb); replace BK748 := aM (blk_below (g := gb748) (o := .cells #[.int .i64 t740, .slice Ao43 t741.length co43, .slice Ao44 t744.length co44] 24 (0, 0)) (by exact P3 BK748) hb); replace HB := bS (qB3 HB GE736 GE737 GE748) hb; (try clear hb); (try clear hk); (try clear hi); (try clear ho0); obtain ⟨Ao47, co47, eo47⟩ := Kd.R_slice HO751.out; subst eo47; obtain ⟨hcz48_0, hcz48_1, hcz48_2, hfz48_0, hfz48_1, hfz48_2⟩ := blk3 BK748.out) | (go_at_call 9; (with_reducible refine (gradinelaw22_same.calls  t752 _ A34.out).mono ?_); rintro e w49 ⟨rfl, hb⟩; replace HO743 := bR HO743 hb; replace HO746 := bR HO746 hb; replace HO751 := bR HO751 hb; replace BK736 := bK BK736 hb; replace BK737 := bK BK737 hb; replace BK748 := bK BK748 hb; replace HB := bS (qB3 HB GE736 GE737 GE748) hb; (try clear hb); (try clear hk); (try clear hi)))
    go_ret
    replace hv_ := hv_.out
    exact ⟨pE, qB3 HB GE736 GE737 GE748⟩
   rw [if_neg c31] at H
   have c31b0 : ((t749.length : Int) == 0) = false := beq_eq_false_iff_ne.mpr c31
   have c31b1 : ((t749.length : Int) != 0) = true := bne_iff_ne.mpr c31
   have c31b2 : ¬ (t749 = []) := fun h_ => c31 (by rw [h_]; rfl)
   replace H := Option.bind_eq_some_iff.mp H
   obtain ⟨⟨t753, t756, t759⟩, A500, H⟩ := H
   try dsimp only at H
   have A50 := aM A500
   clear A500
   have HC51 := aM H
   clear H
   have hnb52 := NB736_737.out
   have hnc52 := NB737_736.out
   obtain ⟨hcz53_0, hcz53_1, hcz53_2, hfz53_0, hfz53_1, hfz53_2⟩ := blk3 BK736.out
   obtain ⟨hcz54_0, hcz54_1, hcz54_2, hcz54_3, hcz54_4, hcz54_5, hcz54_6, hcz54_7, hcz54_8, hcz54_9, hfz54_0, hfz54_1, hfz54_2, hfz54_3, hfz54_4, hfz54_5, hfz54_6, hfz54_7, hfz54_8, hfz54_9⟩ := blk10 BK737.out
   go_upto_region 8 with (first | ((with_reducible refine gate_callee (f := 23) rfl ?_); refine goesL_ (some 34) rfl rfl Try.func23 (by kernel_rfl) rfl #[.agg #[.int .i64 a0_0, .slice A0_1 l0_1.length c0_1, .slice A0_2 l0_2.length c0_2], .int .i64 a1, .agg #[.int .i64 a2_0, .int .i64 a2_1, .int .i64 a2_2, .int .i64 a2_3, .int .i64 a2_4, .int .i64 a2_5, .int .i64 a2_6, .int .i64 a2_7, .bool a2_8, .slice A2_9 l2_9.length c2_9]] rfl pA ?_; (with_reducible refine (gradinelaw22_seen.calls kj3 a0_0 _ _ l0_1 _ _ l0_2 a1 a2_0 a2_1 a2_2 a2_3 a2_4 a2_5 a2_6 a2_7 a2_8 _ _ l2_9 t740 t741 t744 t747 _ ?s1 ?s2 ?s3 ?s4 ?s5 ?s6 A29.out).mono ?_); (case s1 => exact sC HR0_1 HB); (case s2 => exact HC0_1.out); (case s3 => exact sC HR0_2 HB); (case s4 => exact HC0_2.out); (case s5 => exact sC HR2_9 HB); (case s6 => exact HC2_9.out); rintro e w55 ⟨v742, v745, rfl, ho0, ho1, hb⟩; refine ⟨_, rfl, ?_⟩; have HO743 := aM (Kd.R_lower ho0 (below_size (qB2 HB GE736 GE737))); have HO746 := aM (Kd.R_lower ho1 (below_size (qB2 HB GE736 GE737))); replace BK736 := bK BK736 hb; replace BK737 := bK BK737 hb; replace HB := bS (qB2 HB GE736 GE737) hb; (try clear hb); (try clear hk); (try clear hi); (try clear ho0); (try clear ho1)) | ((with_reducible refine gate_dst (N := 7) rfl ?_); (try (refine gate_guard (by rfl) ?_; dsimp only)); refine box_event ?hg (N := 7) ?hd (cs := #[.int .i64 0, .slice none 0 0, .slice none 0 0]) (t := 24) ?hr ?_; (case hd => rfl); (case hg => rfl); (case hr => first | (go_simp; done) | (go_simp; rfl)); intro gb748 hg w56 hbox hb; replace HO743 := bR HO743 hb; replace HO746 := bR HO746 hb; have BK748 := aM (hbox); have GW748 := gE (w := w) hg (qB2 HB GE736 GE737); have GE748 := GW748; replace HB := bS (qB2 HB GE736 GE737) hb; have NB736_748 := nL hg BK736; have NB748_736 := nG hg BK736; replace BK736 := bK BK736 hb; have NB737_748 := nL hg BK737; have NB748_737 := nG hg BK737; replace BK737 := bK BK737 hb; clear hb hbox hg; have hnb57 := NB748_736.out; have hnc57 := NB736_748.out; have hnb58 := NB748_737.out; have hnc58 := NB737_748.out; obtain ⟨hcz59_0, hcz59_1, hcz59_2, hfz59_0, hfz59_1, hfz59_2⟩ := blk3 BK748.out; obtain ⟨Ao60, co60, eo60⟩ := Kd.R_slice HO743.out; subst eo60; obtain ⟨Ao61, co61, eo61⟩ := Kd.R_slice HO746.out; subst eo61; obtain ⟨hcz62_0, hcz62_1, hcz62_2, hfz62_0, hfz62_1, hfz62_2⟩ := blk3 BK736.out) | ((with_reducible refine gate_callee (f := 10) rfl ?_); refine goesL_ (some 38) rfl rfl Try.func10 (by kernel_rfl) rfl #[.agg #[.int .i64 a0_0, .slice A0_1 l0_1.length c0_1, .slice A0_2 l0_2.length c0_2], .int .i64 64] rfl pA ?_; (with_reducible refine (gradineref22_Cells.calls kj3 a0_0 _ _ l0_1 _ _ l0_2 64 t749 _ ?s1 ?s2 ?s3 ?s4 A30.out).mono ?_); (case s1 => exact Kd.C_below HR0_1.out (qB3 HB GE736 GE737 GE748)); (case s2 => exact HC0_1.out); (case s3 => exact Kd.C_below HR0_2.out (qB3 HB GE736 GE737 GE748)); (case s4 => exact HC0_2.out); rintro e w63 ⟨v750, rfl, ho0, hb⟩; refine ⟨_, rfl, ?_⟩; have HO751 := aM (Kd.R_lower (Kd.R_new' (Kd.R_new' ho0 (Kd.R_lt (by (with_reducible repeat (first | apply rA | apply rN | apply rD)); exact (F3 HO743 BK748 (fun _ h_ => h_.1))))) (Kd.R_lt (by (with_reducible repeat (first | apply rA | apply rN | apply rD)); exact (F3 HO746 BK748 (fun _ h_ => h_.1))))) (below_size (qB3 HB GE736 GE737 GE748))); replace HO743 := aM (Kd.R_elder' (by (with_reducible repeat (first | apply rA | apply rN | apply rD)); exact (F3 HO743 BK748 (fun _ h_ => h_.1))) (Kd.R_base ho0) hb); replace HO746 := aM (Kd.R_elder' (by (with_reducible repeat (first | apply rA | apply rN | apply rD)); exact (F3 HO746 BK748 (fun _ h_ => h_.1))) (Kd.R_base ho0) hb); replace BK736 := aM (blk_below (g := gb736) (o := .cells #[.int .i64 a0_0, .slice A0_1 l0_1.length c0_1, .slice A0_2 l0_2.length c0_2] 24 (0, 0)) (by refine B3 NB736_748 ?_; exact BK736.out) hb); replace BK737 := aM (blk_below (g := gb737) (o := .cells #[.int .i64 a2_0, .int .i64 a2_1, .int .i64 a2_2, .int .i64 a2_3, .int .i64 a2_4, .int .i64 a2_5, .int .i64 a2_6, .int .i64 a2_7, .bool a2_8, .slice A2_9 l2_9.length c2_9] 43 (0, 0)) (by refine B3 NB737_748 ?_; exact BK737.out) hb); replace BK748 := aM (blk_below (g := gb748) (o := .cells #[.int .i64 t740, .slice Ao60 t741.length co60, .slice Ao61 t744.length co61] 24 (0, 0)) (by exact P3 BK748) hb); replace HB := bS (qB3 HB GE736 GE737 GE748) hb; (try clear hb); (try clear hk); (try clear hi); (try clear ho0); obtain ⟨Ao64, co64, eo64⟩ := Kd.R_slice HO751.out; subst eo64; obtain ⟨hcz65_0, hcz65_1, hcz65_2, hcz65_3, hcz65_4, hcz65_5, hcz65_6, hcz65_7, hcz65_8, hcz65_9, hfz65_0, hfz65_1, hfz65_2, hfz65_3, hfz65_4, hfz65_5, hfz65_6, hfz65_7, hfz65_8, hfz65_9⟩ := blk10 BK737.out; obtain ⟨hcz66_0, hcz66_1, hcz66_2, hfz66_0, hfz66_1, hfz66_2⟩ := blk3 BK736.out) | ((with_reducible refine gate_callee (f := 24) rfl ?_); refine goesL_ (some 65) rfl rfl Try.func24 (by kernel_rfl) rfl #[.int .i64 a1, .agg #[.int .i64 a2_0, .int .i64 a2_1, .int .i64 a2_2, .int .i64 a2_3, .int .i64 a2_4, .int .i64 a2_5, .int .i64 a2_6, .int .i64 a2_7, .bool a2_8, .slice A2_9 l2_9.length c2_9], .slice A0_1 l0_1.length c0_1] rfl pA ?_; (with_reducible refine (gradineref22_Sees.calls kj3 a1 a2_0 a2_1 a2_2 a2_3 a2_4 a2_5 a2_6 a2_7 a2_8 _ _ l2_9 _ _ l0_1 t753 t756 t759 _ ?s1 ?s2 ?s3 ?s4 A50.out).mono ?_); (case s1 => exact sC HR2_9 HB); (case s2 => exact HC2_9.out); (case s3 => exact sC HR0_1 HB); (case s4 => exact HC0_1.out); rintro e w67 ⟨v754, v757, rfl, ho0, ho1, hb⟩; refine ⟨_, rfl, ?_⟩; have HO755 := aM (Kd.R_lower (Kd.R_new' (Kd.R_new' (Kd.R_new' ho0 (Kd.R_lt (pR HO743.out))) (Kd.R_lt (pR HO746.out))) (Kd.R_lt (pR HO751.out))) (below_size (qB3 HB GE736 GE737 GE748))); have HO758 := aM (Kd.R_lower (Kd.R_new' (Kd.R_new' (Kd.R_new' ho1 (Kd.R_lt (pR HO743.out))) (Kd.R_lt (pR HO746.out))) (Kd.R_lt (pR HO751.out))) (below_size (qB3 HB GE736 GE737 GE748))); replace HO743 := eR2 HO743 ho0 ho1 hb; replace HO746 := eR2 HO746 ho0 ho1 hb; replace HO751 := eR2 HO751 ho0 ho1 hb; replace BK736 := bK BK736 hb; replace BK737 := bK BK737 hb; replace BK748 := bK BK748 hb; replace HB := bS (qB3 HB GE736 GE737 GE748) hb; (try clear hb); (try clear hk); (try clear hi); (try clear ho0); (try clear ho1)))
   (try simp only [Act.put, sP])
   go_cut [79] (fun v79 wc => ∃ (kq : Nat) (x79_50 : Bool), v79 = .bool x79_50 ∧ Aside0 (gradinelaw22_ViewViews.j1 kq t747 t749 t753 t756 t759 x79_50 t740 t741 t744 = some true) ∧ Aside0 (kq ≤ kj3) ∧ Aside0 (Kd.R (Kd.int .i64) 3 wc w.heap.size (fun k_ => some k_ ≠ (v754 : Value).ownBlock ∧ some k_ ≠ (v757 : Value).ownBlock ∧ some k_ ≠ ((.slice Ao60 t741.length co60) : Value).ownBlock ∧ some k_ ≠ ((.slice Ao61 t744.length co61) : Value).ownBlock) (.slice Ao64 t749.length co64) t749) ∧ Aside0 (Kd.R (Kd.int .i64) 3 wc w.heap.size (fun k_ => some k_ ≠ ((.slice Ao64 t749.length co64) : Value).ownBlock ∧ some k_ ≠ (v757 : Value).ownBlock ∧ some k_ ≠ ((.slice Ao60 t741.length co60) : Value).ownBlock ∧ some k_ ≠ ((.slice Ao61 t744.length co61) : Value).ownBlock) v754 t753) ∧ Aside0 (Kd.R (Kd.int .i64) 3 wc w.heap.size (fun k_ => some k_ ≠ ((.slice Ao64 t749.length co64) : Value).ownBlock ∧ some k_ ≠ (v754 : Value).ownBlock ∧ some k_ ≠ ((.slice Ao60 t741.length co60) : Value).ownBlock ∧ some k_ ≠ ((.slice Ao61 t744.length co61) : Value).ownBlock) v757 t756) ∧ Aside0 (Kd.R (Kd.int .i64) 3 wc w.heap.size (fun k_ => some k_ ≠ ((.slice Ao64 t749.length co64) : Value).ownBlock ∧ some k_ ≠ (v754 : Value).ownBlock ∧ some k_ ≠ (v757 : Value).ownBlock ∧ some k_ ≠ ((.slice Ao61 t744.length co61) : Value).ownBlock) (.slice Ao60 t741.length co60) t741) ∧ Aside0 (Kd.R (Kd.int .i64) 3 wc w.heap.size (fun k_ => some k_ ≠ ((.slice Ao64 t749.length co64) : Value).ownBlock ∧ some k_ ≠ (v754 : Value).ownBlock ∧ some k_ ≠ (v757 : Value).ownBlock ∧ some k_ ≠ ((.slice Ao60 t741.length co60) : Value).ownBlock) (.slice Ao61 t744.length co61) t744) ∧ Aside0 (wc.heap[gb736]? = some (.cells #[.int .i64 a0_0, (.slice A0_1 l0_1.length c0_1), (.slice A0_2 l0_2.length c0_2)] 24 (0, 0))) ∧ Aside0 (wc.heap[gb737]? = some (.cells #[.int .i64 a2_0, .int .i64 a2_1, .int .i64 a2_2, .int .i64 a2_3, .int .i64 a2_4, .int .i64 a2_5, .int .i64 a2_6, .int .i64 a2_7, .bool a2_8, (.slice A2_9 l2_9.length c2_9)] 43 (0, 0))) ∧ Aside0 (wc.heap[gb748]? = some (.cells #[.int .i64 t740, (.slice Ao60 t741.length co60), (.slice Ao61 t744.length co61)] 24 (0, 0))) ∧ Aside0 (Below w.heap.size w wc))
   case first =>
    have H := HC51.out
    clear HC51
    by_cases c68 : t759 = 0
    rotate_left
    ·rw [if_neg c68] at H
     have c68b0 : (t759 == 0) = false := beq_eq_false_iff_ne.mpr c68
     have c68b1 : (t759 != 0) = true := bne_iff_ne.mpr c68
     (first | rw [c68b0] | (simp only [i64_w, i32_w]; rw [c68b0]) | skip)
     have H' := aM H
     clear H
     go_wp2
     go_meet
     case rel => exact ⟨_, (false), (pF), H', ⟨by have := HJ3.out; first | omega | exact Nat.le_refl _⟩, ⟨by (with_reducible repeat (first | apply rA | apply rN | apply rD)); exact Kd.R_mono HO751.out (fun _ hk => ⟨hk.1.2, ⟨hk.2, ⟨hk.1.1.1.2, hk.1.1.2⟩⟩⟩)⟩, ⟨by (with_reducible repeat (first | apply rA | apply rN | apply rD)); exact Kd.R_mono HO755.out (fun _ hk => ⟨hk.2, ⟨hk.1.1.1, ⟨hk.1.1.2, hk.1.2⟩⟩⟩)⟩, ⟨by (with_reducible repeat (first | apply rA | apply rN | apply rD)); exact Kd.R_mono HO758.out (fun _ hk => ⟨hk.2, ⟨hk.1.1.1, ⟨hk.1.1.2, hk.1.2⟩⟩⟩)⟩, ⟨by (with_reducible repeat (first | apply rA | apply rN | apply rD)); exact Kd.R_mono HO743.out (fun _ hk => ⟨hk.1.1.2, ⟨hk.1.2, ⟨hk.2, hk.1.1.1⟩⟩⟩)⟩, ⟨by (with_reducible repeat (first | apply rA | apply rN | apply rD)); exact Kd.R_mono HO746.out (fun _ hk => ⟨hk.1.1.2, ⟨hk.1.2, ⟨hk.2, hk.1.1.1⟩⟩⟩)⟩, ⟨by (with_reducible repeat (first | apply bN | apply bD | apply bA)); exact BK736.out⟩, ⟨by (with_reducible repeat (first | apply bN | apply bD | apply bA)); exact BK737.out⟩, ⟨by (with_reducible repeat (first | apply bN | apply bD | apply bA)); exact BK748.out⟩, ⟨qB3 HB GE736 GE737 GE748⟩⟩
    rw [if_pos c68] at H
    have c68b0 : (t759 == 0) = true := beq_iff_eq.mpr c68
    have c68b1 : (t759 != 0) = false := bne_eq_false_iff_eq.mpr c68
    clear c68
    (first | rw [c68b0] | (simp only [i64_w, i32_w]; rw [c68b0]) | skip)
    by_cases c69 : a1 = 33
    rotate_left
    ·rw [if_neg c69] at H
     have c69b0 : (a1 == 33) = false := beq_eq_false_iff_ne.mpr c69
     have c69b1 : (a1 != 33) = true := bne_iff_ne.mpr c69
     have H' := aM H
     clear H
     go_wp2
     go_meet
     case rel => exact ⟨_, (false), (pF), H', ⟨by have := HJ3.out; first | omega | exact Nat.le_refl _⟩, ⟨by (with_reducible repeat (first | apply rA | apply rN | apply rD)); exact Kd.R_mono HO751.out (fun _ hk => ⟨hk.1.2, ⟨hk.2, ⟨hk.1.1.1.2, hk.1.1.2⟩⟩⟩)⟩, ⟨by (with_reducible repeat (first | apply rA | apply rN | apply rD)); exact Kd.R_mono HO755.out (fun _ hk => ⟨hk.2, ⟨hk.1.1.1, ⟨hk.1.1.2, hk.1.2⟩⟩⟩)⟩, ⟨by (with_reducible repeat (first | apply rA | apply rN | apply rD)); exact Kd.R_mono HO758.out (fun _ hk => ⟨hk.2, ⟨hk.1.1.1, ⟨hk.1.1.2, hk.1.2⟩⟩⟩)⟩, ⟨by (with_reducible repeat (first | apply rA | apply rN | apply rD)); exact Kd.R_mono HO743.out (fun _ hk => ⟨hk.1.1.2, ⟨hk.1.2, ⟨hk.2, hk.1.1.1⟩⟩⟩)⟩, ⟨by (with_reducible repeat (first | apply rA | apply rN | apply rD)); exact Kd.R_mono HO746.out (fun _ hk => ⟨hk.1.1.2, ⟨hk.1.2, ⟨hk.2, hk.1.1.1⟩⟩⟩)⟩, ⟨by (with_reducible repeat (first | apply bN | apply bD | apply bA)); exact BK736.out⟩, ⟨by (with_reducible repeat (first | apply bN | apply bD | apply bA)); exact BK737.out⟩, ⟨by (with_reducible repeat (first | apply bN | apply bD | apply bA)); exact BK748.out⟩, ⟨qB3 HB GE736 GE737 GE748⟩⟩
    rw [if_pos c69] at H
    have c69b0 : (a1 == 33) = true := beq_iff_eq.mpr c69
    have c69b1 : (a1 != 33) = false := bne_eq_false_iff_eq.mpr c69
    clear c69
    replace H := Option.bind_eq_some_iff.mp H
    obtain ⟨t760, A700, H⟩ := H
    try dsimp only at H
    have A70 := aM A700
    clear A700
    have H' := aM H
    clear H
    go_wp2_with (first | (go_at_call 17; (with_reducible refine (gradineref22_Row.calls kj3 _ _ t749 t760 _ ?s1 ?s2 A70.out).mono ?_); (case s1 => exact sR HO751); (case s2 => exact sL HO751); rintro e w' ⟨rfl, ⟨nd, rfl⟩⟩))
    go_meet
    case rel => exact ⟨_, (!t760), (pF), H', ⟨by have := HJ3.out; first | omega | exact Nat.le_refl _⟩, ⟨by (with_reducible repeat (first | apply rA | apply rN | apply rD)); exact Kd.R_mono HO751.out (fun _ hk => ⟨hk.1.2, ⟨hk.2, ⟨hk.1.1.1.2, hk.1.1.2⟩⟩⟩)⟩, ⟨by (with_reducible repeat (first | apply rA | apply rN | apply rD)); exact Kd.R_mono HO755.out (fun _ hk => ⟨hk.2, ⟨hk.1.1.1, ⟨hk.1.1.2, hk.1.2⟩⟩⟩)⟩, ⟨by (with_reducible repeat (first | apply rA | apply rN | apply rD)); exact Kd.R_mono HO758.out (fun _ hk => ⟨hk.2, ⟨hk.1.1.1, ⟨hk.1.1.2, hk.1.2⟩⟩⟩)⟩, ⟨by (with_reducible repeat (first | apply rA | apply rN | apply rD)); exact Kd.R_mono HO743.out (fun _ hk => ⟨hk.1.1.2, ⟨hk.1.2, ⟨hk.2, hk.1.1.1⟩⟩⟩)⟩, ⟨by (with_reducible repeat (first | apply rA | apply rN | apply rD)); exact Kd.R_mono HO746.out (fun _ hk => ⟨hk.1.1.2, ⟨hk.1.2, ⟨hk.2, hk.1.1.1⟩⟩⟩)⟩, ⟨by (with_reducible repeat (first | apply bN | apply bD | apply bA)); exact BK736.out⟩, ⟨by (with_reducible repeat (first | apply bN | apply bD | apply bA)); exact BK737.out⟩, ⟨by (with_reducible repeat (first | apply bN | apply bD | apply bA)); exact BK748.out⟩, ⟨qB3 HB GE736 GE737 GE748⟩⟩
   case rest =>
    clear HC51
    try clear c26
    try clear c31
    try clear c31b0
    try clear c31b1
    try clear c31b2
    try clear hcz53_0 hcz53_1 hcz53_2 hcz54_0 hcz54_1 hcz54_2 hcz54_3 hcz54_4 hcz54_5 hcz54_6 hcz54_7 hcz54_8 hcz54_9 hcz59_0 hcz59_1 hcz59_2 hcz62_0 hcz62_1 hcz62_2 hcz65_0 hcz65_1 hcz65_2 hcz65_3 hcz65_4 hcz65_5 hcz65_6 hcz65_7 hcz65_8 hcz65_9 hcz66_0 hcz66_1 hcz66_2 hfz53_0 hfz53_1 hfz53_2 hfz54_0 hfz54_1 hfz54_2 hfz54_3 hfz54_4 hfz54_5 hfz54_6 hfz54_7 hfz54_8 hfz54_9 hfz59_0 hfz59_1 hfz59_2 hfz62_0 hfz62_1 hfz62_2 hfz65_0 hfz65_1 hfz65_2 hfz65_3 hfz65_4 hfz65_5 hfz65_6 hfz65_7 hfz65_8 hfz65_9 hfz66_0 hfz66_1 hfz66_2
    obtain ⟨kq, x79_50, rfl, HA, HJ50, HO_9, HO_10, HO_11, HO_749001, HO_749002, BK736, BK737, BK748, HB⟩ := hcut
    cases kq with
    | zero => exact absurd HA.out (by simp [gradinelaw22_ViewViews.j1])
    | succ kj50 =>
     have H := HA.out
     clear HA
     simp only [gradinelaw22_ViewViews.j1] at H
     have HC71 := aM H
     clear H
     go_upto_if 79 with (fail)
     go_cut [12] (fun v12 wc => ∃ (kq : Nat) (x12_70 : Int), v12 = .int .i64 x12_70 ∧ Aside0 (gradinelaw22_ViewViews.j2 kq t747 t749 t753 t756 x12_70 t740 t741 t744 = some true) ∧ Aside0 (kq ≤ kj50) ∧ Aside0 (Kd.R (Kd.int .i64) 3 wc w.heap.size (fun k_ => some k_ ≠ (v754 : Value).ownBlock ∧ some k_ ≠ (v757 : Value).ownBlock ∧ some k_ ≠ ((.slice Ao60 t741.length co60) : Value).ownBlock ∧ some k_ ≠ ((.slice Ao61 t744.length co61) : Value).ownBlock) (.slice Ao64 t749.length co64) t749) ∧ Aside0 (Kd.R (Kd.int .i64) 3 wc w.heap.size (fun k_ => some k_ ≠ ((.slice Ao64 t749.length co64) : Value).ownBlock ∧ some k_ ≠ (v757 : Value).ownBlock ∧ some k_ ≠ ((.slice Ao60 t741.length co60) : Value).ownBlock ∧ some k_ ≠ ((.slice Ao61 t744.length co61) : Value).ownBlock) v754 t753) ∧ Aside0 (Kd.R (Kd.int .i64) 3 wc w.heap.size (fun k_ => some k_ ≠ ((.slice Ao64 t749.length co64) : Value).ownBlock ∧ some k_ ≠ (v754 : Value).ownBlock ∧ some k_ ≠ ((.slice Ao60 t741.length co60) : Value).ownBlock ∧ some k_ ≠ ((.slice Ao61 t744.length co61) : Value).ownBlock) v757 t756) ∧ Aside0 (Kd.R (Kd.int .i64) 3 wc w.heap.size (fun k_ => some k_ ≠ ((.slice Ao64 t749.length co64) : Value).ownBlock ∧ some k_ ≠ (v754 : Value).ownBlock ∧ some k_ ≠ (v757 : Value).ownBlock ∧ some k_ ≠ ((.slice Ao61 t744.length co61) : Value).ownBlock) (.slice Ao60 t741.length co60) t741) ∧ Aside0 (Kd.R (Kd.int .i64) 3 wc w.heap.size (fun k_ => some k_ ≠ ((.slice Ao64 t749.length co64) : Value).ownBlock ∧ some k_ ≠ (v754 : Value).ownBlock ∧ some k_ ≠ (v757 : Value).ownBlock ∧ some k_ ≠ ((.slice Ao60 t741.length co60) : Value).ownBlock) (.slice Ao61 t744.length co61) t744) ∧ Aside0 (wc.heap[gb736]? = some (.cells #[.int .i64 a0_0, (.slice A0_1 l0_1.length c0_1), (.slice A0_2 l0_2.length c0_2)] 24 (0, 0))) ∧ Aside0 (wc.heap[gb737]? = some (.cells #[.int .i64 a2_0, .int .i64 a2_1, .int .i64 a2_2, .int .i64 a2_3, .int .i64 a2_4, .int .i64 a2_5, .int .i64 a2_6, .int .i64 a2_7, .bool a2_8, (.slice A2_9 l2_9.length c2_9)] 43 (0, 0))) ∧ Aside0 (wc.heap[gb748]? = some (.cells #[.int .i64 t740, (.slice Ao60 t741.length co60), (.slice Ao61 t744.length co61)] 24 (0, 0))) ∧ Aside0 (Below w.heap.size w wc))
     case first =>
      have H := HC71.out
      clear HC71
      by_cases c72 : x79_50 = true
      ·subst c72
       rw [if_pos rfl] at H
       have H' := aM H
       clear H
       go_wp2
       go_meet
       case rel => exact ⟨_, (19), (pF), H', ⟨by have := HJ3.out; have := HJ50.out; first | omega | exact Nat.le_refl _⟩, ⟨pR HO_9.out⟩, ⟨pR HO_10.out⟩, ⟨pR HO_11.out⟩, ⟨pR HO_749001.out⟩, ⟨pR HO_749002.out⟩, ⟨by (with_reducible repeat (first | apply bN | apply bD | apply bA)); exact BK736.out⟩, ⟨by (with_reducible repeat (first | apply bN | apply bD | apply bA)); exact BK737.out⟩, ⟨by (with_reducible repeat (first | apply bN | apply bD | apply bA)); exact BK748.out⟩, ⟨qB3 HB GE736 GE737 GE748⟩⟩
      replace c72 := Bool.eq_false_iff.mpr c72
      subst c72
      rw [if_neg (show ¬ (false = true) by decide)] at H
      have H' := aM H
      clear H
      go_wp2
      go_meet
      case rel => exact ⟨_, (t759), (pF), H', ⟨by have := HJ3.out; have := HJ50.out; first | omega | exact Nat.le_refl _⟩, ⟨pR HO_9.out⟩, ⟨pR HO_10.out⟩, ⟨pR HO_11.out⟩, ⟨pR HO_749001.out⟩, ⟨pR HO_749002.out⟩, ⟨by (with_reducible repeat (first | apply bN | apply bD | apply bA)); exact BK736.out⟩, ⟨by (with_reducible repeat (first | apply bN | apply bD | apply bA)); exact BK737.out⟩, ⟨by (with_reducible repeat (first | apply bN | apply bD | apply bA)); exact BK748.out⟩, ⟨qB3 HB GE736 GE737 GE748⟩⟩
     case rest =>
      clear HC71
      obtain ⟨kq, x12_70, rfl, HA, HJ70, HO_9, HO_10, HO_11, HO_749001, HO_749002, BK736, BK737, BK748, HB⟩ := hcut
      cases kq with
      | zero => exact absurd HA.out (by simp [gradinelaw22_ViewViews.j2])
      | succ kj70 =>
       have H := HA.out
       clear HA
       simp only [gradinelaw22_ViewViews.j2] at H
       by_cases c73 : x12_70 = 0
       rotate_left
       ·rw [if_neg c73] at H
        have c73b0 : (x12_70 == 0) = false := beq_eq_false_iff_ne.mpr c73
        have c73b1 : (x12_70 != 0) = true := bne_iff_ne.mpr c73
        by_cases c92 : t747 = x12_70
        rotate_left
        ·rw [if_neg c92] at H
         have c92b0 : (t747 == x12_70) = false := beq_eq_false_iff_ne.mpr c92
         have c92b1 : (t747 != x12_70) = true := bne_iff_ne.mpr c92
         exact absurd H (by simp)
        rw [if_pos c92] at H
        have c92b0 : (t747 == x12_70) = true := beq_iff_eq.mpr c92
        have c92b1 : (t747 != x12_70) = false := bne_eq_false_iff_eq.mpr c92
        clear c92
        by_cases c93 : (wrap64 ((wrap64 ((t741.length : Int) + (t744.length : Int))) + t740)) = 0
        rotate_left
        ·rw [if_neg c93] at H
         have c93b0 : ((wrap64 ((wrap64 ((t741.length : Int) + (t744.length : Int))) + t740)) == 0) = false := beq_eq_false_iff_ne.mpr c93
         have c93b1 : ((wrap64 ((wrap64 ((t741.length : Int) + (t744.length : Int))) + t740)) != 0) = true := bne_iff_ne.mpr c93
         exact absurd H (by simp)
        rw [if_pos c93] at H
        have c93b0 : ((wrap64 ((wrap64 ((t741.length : Int) + (t744.length : Int))) + t740)) == 0) = true := beq_iff_eq.mpr c93
        have c93b1 : ((wrap64 ((wrap64 ((t741.length : Int) + (t744.length : Int))) + t740)) != 0) = false := bne_eq_false_iff_eq.mpr c93
        clear c93
        replace H := Option.bind_eq_some_iff.mp H
        obtain ⟨t761, A940, H⟩ := H
        try dsimp only at H
        have A94 := aM A940
        clear A940
        have hv_ := aM (Option.some.inj H)
        clear H
        have hnb95 := NB748_736.out
        have hnc95 := NB736_748.out
        have hnb96 := NB748_737.out
        have hnc96 := NB737_748.out
        obtain ⟨hcz97_0, hcz97_1, hcz97_2, hfz97_0, hfz97_1, hfz97_2⟩ := blk3 BK748.out
        go_wp2_with (first | (go_at_call 9; (with_reducible refine (gradinelaw22_same.calls  t761 _ A94.out).mono ?_); rintro e w98 ⟨rfl, hb⟩; replace HO_9 := bR HO_9 hb; replace HO_10 := bR HO_10 hb; replace HO_11 := bR HO_11 hb; replace HO_749001 := bR HO_749001 hb; replace HO_749002 := bR HO_749002 hb; replace BK736 := bK BK736 hb; replace BK737 := bK BK737 hb; replace BK748 := bK BK748 hb; replace HB := bS (qB3 HB GE736 GE737 GE748) hb; (try clear hb); (try clear hk); (try clear hi)))
        go_ret
        replace hv_ := hv_.out
        exact ⟨pE, qB3 HB GE736 GE737 GE748⟩
       rw [if_pos c73] at H
       have c73b0 : (x12_70 == 0) = true := beq_iff_eq.mpr c73
       have c73b1 : (x12_70 != 0) = false := bne_eq_false_iff_eq.mpr c73
       clear c73
       by_cases c74 : t747 = 0
       rotate_left
       ·rw [if_neg c74] at H
        have c74b0 : (t747 == 0) = false := beq_eq_false_iff_ne.mpr c74
        have c74b1 : (t747 != 0) = true := bne_iff_ne.mpr c74
        exact absurd H (by simp)
       rw [if_pos c74] at H
       have c74b0 : (t747 == 0) = true := beq_iff_eq.mpr c74
       have c74b1 : (t747 != 0) = false := bne_eq_false_iff_eq.mpr c74
       clear c74
       replace H := Option.bind_eq_some_iff.mp H
       obtain ⟨t762, A750, H⟩ := H
       try dsimp only at H
       have A75 := aM A750
       clear A750
       by_cases c76 : t762 = true
       rotate_left
       ·replace c76 := Bool.eq_false_iff.mpr c76
        subst c76
        rw [if_neg (show ¬ (false = true) by decide)] at H
        exact absurd H (by simp)
       subst c76
       rw [if_pos rfl] at H
       replace H := Option.bind_eq_some_iff.mp H
       obtain ⟨t763, A770, H⟩ := H
       try dsimp only at H
       have A77 := aM A770
       clear A770
       replace H := Option.bind_eq_some_iff.mp H
       obtain ⟨t766, A780, H⟩ := H
       try dsimp only at H
       have A78 := aM A780
       clear A780
       replace H := Option.bind_eq_some_iff.mp H
       obtain ⟨t769, A790, H⟩ := H
       try dsimp only at H
       have A79 := aM A790
       clear A790
       by_cases c80 : t769 = true
       rotate_left
       ·replace c80 := Bool.eq_false_iff.mpr c80
        subst c80
        rw [if_neg (show ¬ (false = true) by decide)] at H
        exact absurd H (by simp)
       subst c80
       rw [if_pos rfl] at H
       replace H := Option.bind_eq_some_iff.mp H
       obtain ⟨t770, A810, H⟩ := H
       try dsimp only at H
       have A81 := aM A810
       clear A810
       have hv_ := aM (Option.some.inj H)
       clear H
       have hnb82 := NB748_736.out
       have hnc82 := NB736_748.out
       have hnb83 := NB748_737.out
       have hnc83 := NB737_748.out
       obtain ⟨hcz84_0, hcz84_1, hcz84_2, hfz84_0, hfz84_1, hfz84_2⟩ := blk3 BK748.out
       obtain ⟨Ao85, co85, eo85⟩ := Kd.R_slice HO_10.out
       subst eo85
       go_wp2_with (first | (go_at_call 20; (with_reducible refine (gradineplain_Ints.calls kj70 _ _ t741 _ _ t753 true _ ?s1 ?s2 ?s3 ?s4 A75.out).mono ?_); (case s1 => exact sR HO_749001); (case s2 => exact sL HO_749001); (case s3 => exact sR HO_10); (case s4 => exact sL HO_10); rintro e w' ⟨rfl, ⟨nd, rfl⟩⟩) | (go_at_call 10; (with_reducible refine (gradineref22_Cells.calls kj70 t740 _ _ t741 _ _ t744 64 t763 _ ?s1 ?s2 ?s3 ?s4 A77.out).mono ?_); (case s1 => exact sR HO_749001); (case s2 => exact sL HO_749001); (case s3 => exact sR HO_749002); (case s4 => exact sL HO_749002); rintro e w86 ⟨v764, rfl, ho0, hb⟩; have HO765 := aM (Kd.R_lower (Kd.R_new' (Kd.R_new' (Kd.R_new' (Kd.R_new' (Kd.R_new' ho0 (Kd.R_lt (pR HO_9.out))) (Kd.R_lt (pR HO_10.out))) (Kd.R_lt (pR HO_11.out))) (Kd.R_lt (pR HO_749001.out))) (Kd.R_lt (pR HO_749002.out))) (below_size (qB3 HB GE736 GE737 GE748))); replace HO_9 := eR HO_9 ho0 hb; replace HO_10 := eR HO_10 ho0 hb; replace HO_11 := eR HO_11 ho0 hb; replace HO_749001 := eR HO_749001 ho0 hb; replace HO_749002 := eR HO_749002 ho0 hb; replace BK736 := bK BK736 hb; replace BK737 := bK BK737 hb; replace BK748 := bK BK748 hb; replace HB := bS (qB3 HB GE736 GE737 GE748) hb; (try clear hb); (try clear hk); (try clear hi); (try clear ho0); obtain ⟨Ao87, co87, eo87⟩ := Kd.R_slice HO_11.out; subst eo87) | (go_at_call 25; (with_reducible refine (gradineref22_Pick.calls kj70 _ _ t749 _ _ t756 t766 _ ?s1 ?s2 ?s3 ?s4 A78.out).mono ?_); (case s1 => exact sR HO_9); (case s2 => exact sL HO_9); (case s3 => exact sR HO_11); (case s4 => exact sL HO_11); rintro e w88 ⟨v767, rfl, ho0, hb⟩; have HO768 := aM (Kd.R_lower (Kd.R_new' (Kd.R_new' (Kd.R_new' (Kd.R_new' (Kd.R_new' (Kd.R_new' ho0 (Kd.R_lt (pR HO_9.out))) (Kd.R_lt (pR HO_10.out))) (Kd.R_lt (pR HO_11.out))) (Kd.R_lt (pR HO_749001.out))) (Kd.R_lt (pR HO_749002.out))) (Kd.R_lt (pR HO765.out))) (below_size (qB3 HB GE736 GE737 GE748))); replace HO_9 := eR HO_9 ho0 hb; replace HO_10 := eR HO_10 ho0 hb; replace HO_11 := eR HO_11 ho0 hb; replace HO_749001 := eR HO_749001 ho0 hb; replace HO_749002 := eR HO_749002 ho0 hb; replace HO765 := eR HO765 ho0 hb; replace BK736 := bK BK736 hb; replace BK737 := bK BK737 hb; replace BK748 := bK BK748 hb; replace HB := bS (qB3 HB GE736 GE737 GE748) hb; (try clear hb); (try clear hk); (try clear hi); (try clear ho0); obtain ⟨Ao89, co89, eo89⟩ := Kd.R_slice HO765.out; subst eo89; obtain ⟨Ao90, co90, eo90⟩ := Kd.R_slice HO768.out; subst eo90) | (go_at_call 20; (with_reducible refine (gradineplain_Ints.calls kj70 _ _ t763 _ _ t766 true _ ?s1 ?s2 ?s3 ?s4 A79.out).mono ?_); (case s1 => exact sR HO765); (case s2 => exact sL HO765); (case s3 => exact sR HO768); (case s4 => exact sL HO768); rintro e w' ⟨rfl, ⟨nd, rfl⟩⟩) | (go_at_call 9; (with_reducible refine (gradinelaw22_same.calls  t770 _ A81.out).mono ?_); rintro e w91 ⟨rfl, hb⟩; replace HO_9 := bR HO_9 hb; replace HO_10 := bR HO_10 hb; replace HO_11 := bR HO_11 hb; replace HO_749001 := bR HO_749001 hb; replace HO_749002 := bR HO_749002 hb; replace HO765 := bR HO765 hb; replace HO768 := bR HO768 hb; replace BK736 := bK BK736 hb; replace BK737 := bK BK737 hb; replace BK748 := bK BK748 hb; replace HB := bS (qB3 HB GE736 GE737 GE748) hb; (try clear hb); (try clear hk); (try clear hi)))
       go_ret
       replace hv_ := hv_.out
       exact ⟨pE, qB3 HB GE736 GE737 GE748⟩
end Go.Proofs.Ytjbpekblcecneaa.Q
