-- By wip/gprint.py (this session's), out of the kit's print.py.
import Derived.Test.YticcamciaohepaaQx0
import Derived.Test.YticcamciaohepaaQxfMoveDims
import Derived.Test.YticcamciaohepaaQxfSlicesCloneIntInt
import Derived.Test.YticcamciaohepaaQxfWalkAt
import Derived.Test.YticcamciaohepaaQxfWalkPlace
namespace Go.Proofs.Yticcamciaohepaa.Q
open Go.RowKit Go.Proofs.YticcamciaohepaaW.PrintWords Go.Proofs.YticcamciaohepaaW.PrintLast Go.Proofs.YticcamciaohepaaW.PrintMore
attribute [local go_sem] max2_int min2_int max_two min_two max_three min_three max_four min_four   -- for this text's walks alone
set_option linter.unusedVariables false
set_option linter.unusedSimpArgs false

/-! ### move_To: function 8 -/
def move_To.j0 : Nat → List Int → List Int → Bool → Int → Int → Int → Int → Int → Int → Int → Int → Bool → List Int → Option (Int × Bool)
 | 0, _, _, _, _, _, _, _, _, _, _, _, _, _ => none
 | k + 1, x8, x10, x31, ze, x377001, x377002, x377003, x377004, x377005, x377006, x377007, x377008, zn => if x31 = true then (some (0, false)) else ((slices_Clone_int_int.f x10).bind fun zg => (if 0 ≤ ze then (if ze < (x10.length : Int) then (if 0 ≤ (rd x10 ze) then (if (rd x10 ze) < (zn.length : Int) then (if ze < (zg.length : Int) then ((walk_Place.f k x8 (zg.set (ze : Int).toNat (rd zn (rd x10 ze)))).bind fun bt394 => (some (bt394.1, bt394.2))) else (none)) else (none)) else (none)) else (none)) else (none)))
def move_To.f (k : Nat) (a0_0 : Int) (a0_1 : Int) (a0_2 : Int) (a0_3 : Int) (a0_4 : Int) (a0_5 : Int) (a0_6 : Int) (a0_7 : Int) (a0_8 : Bool) (l0_9 : List Int) (l1 : List Int) (a2 : Int) : Option (Int × Bool) := (move_Dims.f k 39 a0_0 a0_1 a0_2 a0_3 a0_4 a0_5 a0_6 a0_7 a0_8 l0_9 (([l1] : List (List Int)))).bind fun bt380 => ((walk_At.f k l1 a2).bind fun bt384 => (if bt380.2 = 0 then (move_To.j0 k bt380.1 bt384.1 (!bt384.2) a0_0 a0_1 a0_2 a0_3 a0_4 a0_5 a0_6 a0_7 a0_8 l0_9) else (move_To.j0 k bt380.1 bt384.1 true a0_0 a0_1 a0_2 a0_3 a0_4 a0_5 a0_6 a0_7 a0_8 l0_9)))
def move_To.T6 : Bool × List (List Nat × List Nat) := (true, [([], []), ([], []), ([1], [1]), ([], []), ([3], [3]), ([], []), ([], []), ([6], [6]), ([5, 7], [5, 7]), ([8], [8]), ([4, 9], [4, 9]), ([10], [10]), ([0, 2, 0, 1, 2, 3, 4, 5, 6, 7, 8, 9, 10, 11], [0, 2]), ([12, 11, 0, 1, 2, 3, 4, 5, 6, 7, 8, 9, 10, 11], [11, 12])])
def move_To.B6 : List Nat := [0, 0, 2, 0, 8, 0, 0, 64, 224, 480, 1016, 2040, 4095, 8191]
theorem move_To.tab6 : rtab .any (opsOf Try.f8 6) = move_To.T6 := by kernel_rfl
theorem move_To.bits6 : waitsOk move_To.T6.2 move_To.B6 = true := by kernel_rfl
set_option maxHeartbeats 8000000 in
set_option maxRecDepth 100000 in
theorem move_To.calls (k : Nat) (a0_0 : Int) (a0_1 : Int) (a0_2 : Int) (a0_3 : Int) (a0_4 : Int) (a0_5 : Int) (a0_6 : Int) (a0_7 : Int) (a0_8 : Bool) (A0_9 : Option Addr) (c0_9 : Nat) (l0_9 : List Int) (P1_ : Nat → Prop) (A1 : Option Addr) (c1 : Nat) (l1 : List Int) (a2 : Int) (r1 : Int) (r2 : Bool) (w : World) (hr0_9 : Kd.C (Kd.int .i64) w A0_9 l0_9.length l0_9) (hc0_9 : l0_9.length ≤ c0_9) (hs1 : Kd.V (Kd.int .i64) 3 w w.heap.size (fun k_ => P1_ k_) (.slice A1 l1.length c1) l1) (h : move_To.f k a0_0 a0_1 a0_2 a0_3 a0_4 a0_5 a0_6 a0_7 a0_8 l0_9 l1 a2 = some (r1, r2)) :
  Calls Try.prog 8 #[.agg #[.int .i64 a0_0, .int .i64 a0_1, .int .i64 a0_2, .int .i64 a0_3, .int .i64 a0_4, .int .i64 a0_5, .int .i64 a0_6, .int .i64 a0_7, .bool a0_8, .slice A0_9 l0_9.length c0_9], .slice A1 l1.length c1, .int .i64 a2] w fun e w' => e = .returned (.tuple #[.int .i64 r1, .bool r2]) ∧ Below w.heap.size w w' := by
 have hu24 := Try.underlying24
 have zs := aM hr0_9
 have HC0_9 := aM hc0_9
 clear hr0_9 hc0_9
 have HO1 := aM (show Kd.V (Kd.int .i64) 3 w w.heap.size (fun k_ => (P1_ k_ ∨ w.heap.size ≤ k_)) (.slice A1 l1.length c1) l1 from Kd.V_mono hs1 (fun k_ hk => .inl hk))
 have HB := aM (Below.refl w.heap.size w)
 have H : ((move_Dims.f k 39 a0_0 a0_1 a0_2 a0_3 a0_4 a0_5 a0_6 a0_7 a0_8 l0_9 (([l1] : List (List Int)))).bind fun bt380 => ((walk_At.f k l1 a2).bind fun bt384 => (if bt380.2 = 0 then (move_To.j0 k bt380.1 bt384.1 (!bt384.2) a0_0 a0_1 a0_2 a0_3 a0_4 a0_5 a0_6 a0_7 a0_8 l0_9) else (move_To.j0 k bt380.1 bt384.1 true a0_0 a0_1 a0_2 a0_3 a0_4 a0_5 a0_6 a0_7 a0_8 l0_9)))) = some (r1, r2) := h
 clear h
 obtain ⟨zv, zp⟩ : ∃ y_ : List (List Int), y_ = (([l1] : List (List Int))) := ⟨_, rfl⟩
 replace H : ((move_Dims.f k 39 a0_0 a0_1 a0_2 a0_3 a0_4 a0_5 a0_6 a0_7 a0_8 l0_9 zv).bind fun bt380 => ((walk_At.f k l1 a2).bind fun bt384 => (if bt380.2 = 0 then (move_To.j0 k bt380.1 bt384.1 (!bt384.2) a0_0 a0_1 a0_2 a0_3 a0_4 a0_5 a0_6 a0_7 a0_8 l0_9) else (move_To.j0 k bt380.1 bt384.1 true a0_0 a0_1 a0_2 a0_3 a0_4 a0_5 a0_6 a0_7 a0_8 l0_9)))) = some (r1, r2) := pH zp H
 have zt := aM zp
 clear zp
 replace H := Option.bind_eq_some_iff.mp H
 obtain ⟨⟨zk, zo⟩, A40, H⟩ := H
 try dsimp only at H
 have A4 := aM A40
 clear A40
 replace H := Option.bind_eq_some_iff.mp H
 obtain ⟨⟨zd, zz⟩, A50, H⟩ := H
 try dsimp only at H
 have A5 := aM A50
 clear A50
 have HC6 := aM H
 clear H
 go_enter Try.func8, Try.ntmps8
 go_upto_region 3 with (first | ((with_reducible refine gate_dst (N := 3) rfl ?_); refine box_event ?hg (N := 3) ?hd (cs := #[.int .i64 a0_0, .int .i64 a0_1, .int .i64 a0_2, .int .i64 a0_3, .int .i64 a0_4, .int .i64 a0_5, .int .i64 a0_6, .int .i64 a0_7, .bool a0_8, .slice A0_9 l0_9.length c0_9]) (t := 24) ?hr ?_; (case hd => rfl); (case hg => rfl); (case hr => first | (go_simp; done) | (go_simp; rfl)); intro zb hg w7 hbox hb; replace HO1 := aM (Kd.V_below (Kd.V_elderB (pV HO1.out) zb (Nat.le_of_eq hg.symm)) hb); have za := aM (hbox); have GW376 := gE (w := w) hg (qB HB); have zc := GW376; replace HB := bS (qB HB) hb; clear hb hbox hg; obtain ⟨hcz8_0, hcz8_1, hcz8_2, hcz8_3, hcz8_4, hcz8_5, hcz8_6, hcz8_7, hcz8_8, hcz8_9, hfz8_0, hfz8_1, hfz8_2, hfz8_3, hfz8_4, hfz8_5, hfz8_6, hfz8_7, hfz8_8, hfz8_9⟩ := blk10 za.out) | ((with_reducible refine gate_dst (N := 16) rfl ?_); refine Kd.N_lit (Kd.slice 3 (Kd.int .i64)) _ 22 ?hg (N' := 16) ?hd (xs := ([l1] : List (List Int))) (inner := [.slice A1 l1.length c1]) (ok := (fun k_ => (P1_ k_ ∨ w.heap.size ≤ k_) ∧ k_ ≠ zb)) (okp := (fun k_ => (P1_ k_ ∨ w.heap.size ≤ k_) ∧ k_ ≠ zb)) ?hr ?hp (fun _ hk => hk) ((show ∀ k_, w7.heap.size ≤ k_ → (fun k_ => (P1_ k_ ∨ w.heap.size ≤ k_) ∧ k_ ≠ zb) k_ from fun k_ hk => ⟨(.inr (Nat.le_trans (below_size (qB1 HB zc)) hk)), Kd.freshB (g := zb) (pK za.out) k_ hk⟩) _ (Nat.le_refl _)) (Below.refl _ _) (Nat.le_refl _) (by simp) ?_; (case hd => rfl); (case hg => rfl); (case hr => first | (go_simp; done) | (go_simp; rfl)); (case hp => exact (Reps.one (show Kd.FK (Kd.slice 3 (Kd.int .i64)) _ _ l1 [.slice A1 l1.length c1] from (Kd.FK_slice_mk (Kd.V_reads' (Kd.V_mono (ok' := (fun k_ => (P1_ k_ ∨ w.heap.size ≤ k_) ∧ k_ ≠ zb)) (HO1.out) (fun k_ hk => ⟨hk.1, hk.2⟩))).2.1 (Kd.V_F (Kd.V_mono (ok' := (fun k_ => (P1_ k_ ∨ w.heap.size ≤ k_) ∧ k_ ≠ zb)) (HO1.out) (fun k_ hk => ⟨hk.1, hk.2⟩))))) (Reps.none _ _))); intro v378 w9 ho10 hb hg_ hnew_; clear hg_ hnew_; (first | rw [← zt.out] at ho10 | (simp only [Int.reduceToNat] at ho10; rw [← zt.out] at ho10)); replace HO1 := aM (Kd.V_elder' (pV HO1.out) (Kd.N_base ho10) hb); have zh := aM (Kd.N_lower ho10 (below_size (qB1 HB zc))); replace za := bK za hb; replace HB := bS (qB1 HB zc) hb; clear hb ho10; obtain ⟨Ao11, co11, eo11⟩ := Kd.N_slice zh.out; subst eo11) | ((with_reducible refine gate_callee (f := 10) rfl ?_); refine goesL_ (some 17) rfl rfl Try.func10 (by kernel_rfl) rfl #[.int .i64 39, .agg #[.int .i64 a0_0, .int .i64 a0_1, .int .i64 a0_2, .int .i64 a0_3, .int .i64 a0_4, .int .i64 a0_5, .int .i64 a0_6, .int .i64 a0_7, .bool a0_8, .slice A0_9 l0_9.length c0_9], .slice Ao11 zv.length co11] rfl pA ?_; (with_reducible refine (move_Dims.calls k 39 a0_0 a0_1 a0_2 a0_3 a0_4 a0_5 a0_6 a0_7 a0_8 _ _ l0_9 _ _ zv zk zo _ ?s1 ?s2 ?s3 ?s4 A4.out).mono ?_); (case s1 => exact sC zs HB); (case s2 => exact HC0_9.out); (case s3 => exact pC (Kd.N_reads' zh.out).2.2); (case s4 => exact (Kd.N_reads' zh.out).2.1); rintro e w12 ⟨z0, rfl, ho0, hb⟩; refine ⟨_, rfl, ?_⟩; replace HO1 := aM (Kd.V_elder' (pV HO1.out) (Kd.R_base ho0) hb); replace zh := aM (Kd.N_elder' (by (with_reducible repeat (first | apply Kd.N_alloc | apply Kd.N_drewN | apply Kd.N_drew)); exact zh.out) (Kd.R_base ho0) hb); have zl := aM (Kd.R_lower (Kd.R_newM (M := fun k_ => (w.heap.size ≤ k_)) ho0 (below_size (qB1 HB zc)) (fun k_ h_ => h_)) (below_size (qB1 HB zc))); replace za := bK za hb; replace HB := bS (qB1 HB zc) hb; (try clear hb); (try clear hk); (try clear hi); (try clear ho0)) | ((with_reducible refine gate_callee (f := 18) rfl ?_); refine goesL_ (some 23) rfl rfl Try.func18 (by kernel_rfl) rfl #[.slice A1 l1.length c1, .int .i64 a2] rfl pA ?_; (with_reducible refine (walk_At.calls k _ _ l1 a2 zd zz _ ?s1 ?s2 A5.out).mono ?_); (case s1 => exact pC (Kd.V_reads' HO1.out).2.2); (case s2 => exact (Kd.V_reads' HO1.out).2.1); rintro e w13 ⟨z1, rfl, ho0, hb⟩; refine ⟨_, rfl, ?_⟩; replace HO1 := aM (Kd.V_elder' (pV HO1.out) (Kd.R_base ho0) hb); replace zh := aM (Kd.N_elder' (by (with_reducible repeat (first | apply Kd.N_alloc | apply Kd.N_drewN | apply Kd.N_drew)); exact zh.out) (Kd.R_base ho0) hb); have zu := aM (Kd.R_lower (Kd.R_new' (Kd.R_newM (M := fun k_ => (w.heap.size ≤ k_)) ho0 (below_size (qB1 HB zc)) (fun k_ h_ => h_)) (Kd.R_lt (pR zl.out))) (below_size (qB1 HB zc))); replace zl := eR zl ho0 hb; replace za := bK za hb; replace HB := bS (qB1 HB zc) hb; (try clear hb); (try clear hk); (try clear hi); (try clear ho0)))
 (try simp only [Act.put, sP])
 go_cut [31] (fun v31 wc => ∃ (kq : Nat) (x31_5 : Bool), v31 = .bool x31_5 ∧ Aside0 (move_To.j0 kq zk zd x31_5 a0_0 a0_1 a0_2 a0_3 a0_4 a0_5 a0_6 a0_7 a0_8 l0_9 = some (r1, r2)) ∧ Aside0 (kq ≤ k) ∧ Aside0 (Kd.R (Kd.int .i64) 3 wc w.heap.size (fun k_ => (w.heap.size ≤ k_) ∧ some k_ ≠ (z1 : Value).ownBlock) z0 zk) ∧ Aside0 (Kd.R (Kd.int .i64) 3 wc w.heap.size (fun k_ => (w.heap.size ≤ k_) ∧ some k_ ≠ (z0 : Value).ownBlock) z1 zd) ∧ Aside0 (wc.heap[zb]? = some (.cells #[.int .i64 a0_0, .int .i64 a0_1, .int .i64 a0_2, .int .i64 a0_3, .int .i64 a0_4, .int .i64 a0_5, .int .i64 a0_6, .int .i64 a0_7, .bool a0_8, (.slice A0_9 l0_9.length c0_9)] 24 (0, 0))) ∧ Aside0 (Below w.heap.size w wc))
 case first =>
  have H := HC6.out
  clear HC6
  by_cases c14 : zo = 0
  rotate_left
  ·rw [if_neg c14] at H
   have zm : (zo == 0) = false := beq_eq_false_iff_ne.mpr c14
   have c14b1 : (zo != 0) = true := bne_iff_ne.mpr c14
   (first | rw [zm] | (simp only [i64_w, i32_w]; rw [zm]) | skip)
   have H' := aM H
   clear H
   go_wp2
   go_meet
   case rel => exact ⟨_, (true), (pF), H', ⟨by first | omega | exact Nat.le_refl _⟩, ⟨by (with_reducible repeat (first | apply rA | apply rN | apply rD)); exact Kd.R_mono zl.out (fun _ hk => ⟨hk.1.1, hk.2⟩)⟩, ⟨by (with_reducible repeat (first | apply rA | apply rN | apply rD)); exact Kd.R_mono zu.out (fun _ hk => ⟨hk.1.1, hk.2⟩)⟩, ⟨pK za.out⟩, ⟨qB1 HB zc⟩⟩
  rw [if_pos c14] at H
  have zm : (zo == 0) = true := beq_iff_eq.mpr c14
  have c14b1 : (zo != 0) = false := bne_eq_false_iff_eq.mpr c14
  clear c14
  (first | rw [zm] | (simp only [i64_w, i32_w]; rw [zm]) | skip)
  have H' := aM H
  clear H
  go_wp2
  go_meet
  case rel => exact ⟨_, (!zz), (pF), H', ⟨by first | omega | exact Nat.le_refl _⟩, ⟨by (with_reducible repeat (first | apply rA | apply rN | apply rD)); exact Kd.R_mono zl.out (fun _ hk => ⟨hk.1.1, hk.2⟩)⟩, ⟨by (with_reducible repeat (first | apply rA | apply rN | apply rD)); exact Kd.R_mono zu.out (fun _ hk => ⟨hk.1.1, hk.2⟩)⟩, ⟨pK za.out⟩, ⟨qB1 HB zc⟩⟩
 case rest =>
  clear HC6
  try clear c1
  try clear hcz8_0 hcz8_1 hcz8_2 hcz8_3 hcz8_4 hcz8_5 hcz8_6 hcz8_7 hcz8_8 hcz8_9 hfz8_0 hfz8_1 hfz8_2 hfz8_3 hfz8_4 hfz8_5 hfz8_6 hfz8_7 hfz8_8 hfz8_9
  obtain ⟨kq, x31_5, rfl, HA, HJ5, zj, zf, za, HB⟩ := hcut
  cases kq with
  | zero => exact absurd HA.out (by simp [move_To.j0])
  | succ kj5 =>
   have H := HA.out
   clear HA
   simp only [move_To.j0] at H
   by_cases c15 : x31_5 = true
   ·subst c15
    rw [if_pos rfl] at H
    simp only [Option.some.injEq, Prod.mk.injEq] at H
    obtain ⟨rfl, rfl⟩ := H
    go_wp2
    go_ret2
    exact ⟨pE, qB1 HB zc⟩
   replace c15 := Bool.eq_false_iff.mpr c15
   subst c15
   rw [if_neg (show ¬ (false = true) by decide)] at H
   replace H := Option.bind_eq_some_iff.mp H
   obtain ⟨zg, z2, H⟩ := H
   try dsimp only at H
   have A16 := aM z2
   clear z2
   by_cases c17 : 0 ≤ a0_0
   rotate_left
   ·rw [if_neg c17] at H
    exact absurd H (by simp)

   rw [if_pos c17] at H
   have c17b0 : decide (0 ≤ a0_0) = true := decide_eq_true c17
   clear c17
   by_cases c18 : a0_0 < (zd.length : Int)
   rotate_left
   ·rw [if_neg c18] at H
    exact absurd H (by simp)
   rw [if_pos c18] at H
   have c18b0 : decide (a0_0 < (zd.length : Int)) = true := decide_eq_true c18
   clear c18
   by_cases c19 : 0 ≤ (rd zd a0_0)
   rotate_left
   ·rw [if_neg c19] at H
    exact absurd H (by simp)
   rw [if_pos c19] at H
   have c19b0 : decide (0 ≤ (rd zd a0_0)) = true := decide_eq_true c19
   clear c19
   by_cases c20 : (rd zd a0_0) < (l0_9.length : Int)
   rotate_left
   ·rw [if_neg c20] at H
    exact absurd H (by simp)
   rw [if_pos c20] at H
   have c20b0 : decide ((rd zd a0_0) < (l0_9.length : Int)) = true := decide_eq_true c20
   clear c20
   by_cases c21 : a0_0 < (zg.length : Int)
   rotate_left
   ·rw [if_neg c21] at H
    exact absurd H (by simp)
   rw [if_pos c21] at H
   have c21b0 : decide (a0_0 < (zg.length : Int)) = true := decide_eq_true c21
   clear c21
   obtain ⟨zq, zr⟩ : ∃ y_ : List Int, y_ = (zg.set (a0_0 : Int).toNat (rd l0_9 (rd zd a0_0))) := ⟨_, rfl⟩
   replace H : ((walk_Place.f kj5 zk zq).bind fun bt394 => (some (bt394.1, bt394.2))) = some (r1, r2) := pH zr H
   have Ny393 := aM zr
   clear zr
   replace H := Option.bind_eq_some_iff.mp H
   obtain ⟨⟨t394, t395⟩, z3, H⟩ := H
   try dsimp only at H
   have A23 := aM z3
   clear z3
   simp only [Option.some.injEq, Prod.mk.injEq] at H
   obtain ⟨rfl, rfl⟩ := H
   obtain ⟨Ao24, zw, eo24⟩ := Kd.R_slice zf.out
   subst eo24
   try go_wp2_with (first | ((with_reducible refine gate_callee (f := 19) rfl ?_); refine goesL_ (some 33) rfl rfl Try.func19 (by kernel_rfl) rfl #[.slice Ao24 zd.length zw] rfl pA ?_; (with_reducible refine (slices_Clone_int_int.calls _ _ zd zg _ ?s1 ?s2 A16.out).mono ?_); (case s1 => exact sR zf); (case s2 => exact sL zf); rintro e w25 ⟨v389, rfl, ho0, hb⟩; refine ⟨_, rfl, ?_⟩; have zi := aM (Kd.R_lower (Kd.R_new' (Kd.R_new' (Kd.R_newM (M := fun k_ => (w.heap.size ≤ k_)) ho0 (below_size (qB1 HB zc)) (fun k_ h_ => h_)) (Kd.R_lt (pR zj.out))) (Kd.R_lt (pR zf.out))) (below_size (qB1 HB zc))); replace zj := eR zj ho0 hb; replace zf := eR zf ho0 hb; replace za := bK za hb; replace HB := bS (qB1 HB zc) hb; (try clear hb); (try clear hk); (try clear hi); (try clear ho0)))
   replace zj := aM (Kd.R_drew zj.out)
   replace zf := aM (Kd.R_drew zf.out)
   replace zi := aM (Kd.R_drew zi.out)
   replace za := aM (blk_drew za.out)
   replace HB := aM (below_drew1 HB.out)
   have p391 : 0 ≤ (a0_0 : Int) := of_decide_eq_true pD
   have q391 : a0_0 < (zd.length : Int) := of_decide_eq_true pD
   obtain ⟨ad391, e391, hx391_0⟩ := Kd.at_int (Kd.R_reads' zf.out).2.2 a0_0 p391 q391
   cases e391
   replace p391 := eq_true p391
   replace q391 := eq_true q391
   have p392 : 0 ≤ ((rd zd a0_0) : Int) := of_decide_eq_true pD
   have q392 : (rd zd a0_0) < (l0_9.length : Int) := of_decide_eq_true pD
   obtain ⟨ad392, e392, hx392_0⟩ := Kd.at_int zs.out (rd zd a0_0) p392 q392
   have hw392_0 := hx392_0
   cases e392
   replace hx392_0 := (HB.out.cell (World.block_lt_of_cell? w _ hx392_0)).trans hx392_0
   replace p392 := eq_true p392
   replace q392 := eq_true q392
   have p22 : 0 ≤ (a0_0 : Int) := of_decide_eq_true pD
   have q22 : (a0_0 : Int) < ((zg.length : Int) : Int) := of_decide_eq_true pD
   obtain ⟨go22, zx, z4, z5, gl22, cl22, HG22⟩ := Kd.R_form zi.out (by omega)
   (first | cases z4 | (injection z4 with ea_ en_ ec_; (first | subst ea_ | (injection ea_ with ea_; subst ea_)); subst ec_; clear en_))
   have GB22 := aM z5
   have GG22 := aM HG22
   clear z5 gl22 HG22
   obtain ⟨hx22_0, hf22_0⟩ := Kd.R_celln 0 zi.out (a0_0 : Int) p22 q22
   replace p22 := eq_true p22
   replace q22 := eq_true q22
   have HP27 := Kd.R_putn zi.out (a0_0 : Int) (rd l0_9 (rd zd a0_0))
   rw [← Ny393.out] at HP27
   have HQ27 := aM HP27
   clear HP27
   refine start_ (n := 14) (S := fun w' => w'.cell? ⟨zb, 0, none⟩ = some (.int .i64 a0_0) ∧ w'.cell? ⟨zb, 1, none⟩ = some (.int .i64 a0_1) ∧ w'.cell? ⟨zb, 2, none⟩ = some (.int .i64 a0_2) ∧ w'.cell? ⟨zb, 3, none⟩ = some (.int .i64 a0_3) ∧ w'.cell? ⟨zb, 4, none⟩ = some (.int .i64 a0_4) ∧ w'.cell? ⟨zb, 5, none⟩ = some (.int .i64 a0_5) ∧ w'.cell? ⟨zb, 6, none⟩ = some (.int .i64 a0_6) ∧ w'.cell? ⟨zb, 7, none⟩ = some (.int .i64 a0_7) ∧ w'.cell? ⟨zb, 8, none⟩ = some (.bool a0_8) ∧ w'.cell? ⟨zb, 9, none⟩ = some (.slice (some ad392) l0_9.length c0_9) ∧ w'.cell? (ad391.add (a0_0).toNat) = some (.int .i64 (rd zd a0_0)) ∧ w'.cell? (ad392.add ((rd zd a0_0)).toNat) = some (.int .i64 (rd l0_9 (rd zd a0_0)))) (ds := [13]) (bm 14 0) (by kernel_rfl) rfl rfl ⟨(blk_cell za.out 0).trans rfl, (blk_cell za.out 1).trans rfl, (blk_cell za.out 2).trans rfl, (blk_cell za.out 3).trans rfl, (blk_cell za.out 4).trans rfl, (blk_cell za.out 5).trans rfl, (blk_cell za.out 6).trans rfl, (blk_cell za.out 7).trans rfl, (blk_cell za.out 8).trans rfl, (blk_cell za.out 9).trans rfl, hx391_0, ((HB.out.cell (World.block_lt_of_cell? w _ hw392_0)).trans hw392_0)⟩ (fun hHeld => ?_); refine with_tabW move_To.tab6 move_To.bits6 (fun HT_ HW_ => ?_)
   generalize w25.drew = w26 at zj zf zi za HB GG22 HQ27 hf22_0 hx22_0 hx391_0 hx392_0 hHeld ⊢
   refine pP (i := 0) (N := some 34) (bm 14 1) rfl rfl HT_.out ?_
   refine pP (i := 1) (N := some 35) (bm 14 3) rfl rfl HT_.out ?_
   refine pP (i := 3) (N := some 37) (bm 14 11) rfl rfl HT_.out ?_
   refine pP (i := 5) (N := some 39) (bm 14 43) rfl rfl HT_.out ?_
   refine pP (i := 6) (N := some 40) (bm 14 107) rfl rfl HT_.out ?_
   refine pT (i := 2) (N := some 36) (bm 14 111) rfl rfl HT_.out HW_.out hHeld (by rintro w' ⟨s0, s1, s2, s3, s4, s5, s6, s7, s8, s9, s10, s11⟩; go_simp; with_reducible rfl) ?_
   refine pT (i := 4) (N := some 38) (bm 14 127) rfl rfl HT_.out HW_.out hHeld (by rintro w' ⟨s0, s1, s2, s3, s4, s5, s6, s7, s8, s9, s10, s11⟩; go_simp; with_reducible rfl) ?_
   refine pT (i := 7) (N := some 41) (bm 14 255) rfl rfl HT_.out HW_.out hHeld (by rintro w' ⟨s0, s1, s2, s3, s4, s5, s6, s7, s8, s9, s10, s11⟩; go_simp; with_reducible rfl) ?_
   refine pP (i := 8) (N := some 42) (bm 14 511) rfl rfl HT_.out ?_
   refine pT (i := 9) (N := some 43) (bm 14 1023) rfl rfl HT_.out HW_.out hHeld (by rintro w' ⟨s0, s1, s2, s3, s4, s5, s6, s7, s8, s9, s10, s11⟩; go_simp; with_reducible rfl) ?_
   refine pP (i := 10) (N := some 44) (bm 14 2047) rfl rfl HT_.out ?_
   refine pT (i := 11) (N := some 45) (bm 14 4095) rfl rfl HT_.out HW_.out hHeld (by rintro w' ⟨s0, s1, s2, s3, s4, s5, s6, s7, s8, s9, s10, s11⟩; go_simp; with_reducible rfl) ?_
   refine pP (i := 12) (N := some 46) (bm 14 8191) rfl rfl HT_.out ?_
   refine last_ (i := 13) (N := none) (bm 14 16383) rfl rfl (one_of HT_.out (by kernel_rfl)) (by decide) (fun K hK => ?_)
   refine skip_ (w1 := ?_) (by rfl) rfl ?_ ?_
   rotate_left
   ·go_simp
    rfl
   refine hK.out _ _ ?_
   clear hK K
   refine done_ (done_of HT_.out (by kernel_rfl)) ?_
   obtain ⟨z6, zy, eo28⟩ := Kd.R_slice zj.out
   subst eo28
   try go_wp2_with (first | ((with_reducible refine gate_callee (f := 20) rfl ?_); refine goesL_ (some 49) rfl rfl Try.func20 (by kernel_rfl) rfl #[.slice z6 zk.length zy, .slice (some ⟨go22, 0, none⟩) zq.length zx] rfl (by (try simp only [List.map_toArray, List.map_cons, List.map_nil]); first | done | (rw [show zq.length = zg.length from (Kd.R_reads' HQ27.out).1.symm] <;> rfl) | rfl | (simp only [List.length_drop, List.length_take]; rfl)) ?_; (with_reducible refine (walk_Place.calls kj5 _ _ zk _ _ zq t394 t395 _ ?s1 ?s2 ?s3 ?s4 A23.out).mono ?_); (case s1 => refine (Kd.R_reads' (e := 3) (base := w.heap.size) (ok := fun k_ => (((w.heap.size ≤ k_) ∧ some k_ ≠ (.slice (some ad391) zd.length zw : Value).ownBlock) ∧ some k_ ≠ (.slice (some ⟨go22, 0, none⟩) zg.length zx : Value).ownBlock)) (n := zk.length) (c := zy) ?_).2.2; exact (by (with_reducible repeat (first | apply rA | apply rN | apply rD)); exact (Kd.R_mono (Kd.R_far (p := ⟨go22, (a0_0 : Int).toNat, none⟩) (Kd.R_mono zj.out (fun k_ hk => (⟨hk, fun e_ => hk.2 (by rw [e_]; rfl)⟩ : _ ∧ k_ ≠ go22))) (fun _ hk => hk.2) (.int .i64 (rd l0_9 (rd zd a0_0)))) (fun _ h_ => h_.1)))); (case s2 => exact sL zj); (case s3 => refine (Kd.R_reads' (e := 3) (base := w.heap.size) (ok := fun k_ => ((((w.heap.size ≤ k_) ∧ True) ∧ some k_ ≠ (.slice z6 zk.length zy : Value).ownBlock) ∧ some k_ ≠ (.slice (some ad391) zd.length zw : Value).ownBlock)) (n := zg.length) (c := zx) ?_).2.2; exact (pR HQ27.out)); (case s4 => rw [show zq.length = zg.length from (Kd.R_reads' HQ27.out).1.symm]; exact sL zi); rintro e w' ⟨rfl, ⟨nd, rfl⟩⟩; refine ⟨_, rfl, ?_⟩))
   go_ret2
   exact ⟨pE, qB2 HB GB22 zc⟩
end Go.Proofs.Yticcamciaohepaa.Q
