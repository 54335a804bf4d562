-- Written by this session's program wip/gprint.py, which drives the kit's print.py and puts the session's own texts in for some functions.
import Derived.Test.YtjbpekblcecneaaQx0
import Derived.Test.YtjbpekblcecneaaQxfLowViewRight
import Derived.Test.YtjbpekblcecneaaQxfViewCopied
namespace Go.Proofs.Ytjbpekblcecneaa.Q
open Go.RowKit Go.Proofs.YtjbpekblcecneaaW.PrintWords Go.Proofs.YtjbpekblcecneaaW.PrintLast Go.Proofs.YtjbpekblcecneaaW.PrintMore
attribute [local go_sem] max2_int min2_int max_two min_two max_three min_three max_four min_four   -- for this text's walks alone
set_option linter.unusedVariables false
set_option linter.unusedSimpArgs false

/-! ### view_Flip: function 19 -/
def view_Flip.j0 : Nat → Int → Bool → Int → List Int → List Int → Option (Int × List Int × List Int × Int)
 | 0, _, _, _, _, _ => none
 | k + 1, x1, x20, x330000, x330001, x330002 => if x20 = true then (some (0, ([] : List Int), ([] : List Int), 10)) else ((view_copied.f x330000 x330001 x330002).bind fun bt332 => (if 0 ≤ x1 then (if x1 < (x330001.length : Int) then (if (rd x330001 x1) > 1 then (if x1 < (x330002.length : Int) then (if x1 < (bt332.2.2.length : Int) then (some (wrap64 (bt332.1 + (wrap64 ((wrap64 ((rd x330001 x1) - 1)) * (rd x330002 x1)))), bt332.2.1, (bt332.2.2.set (x1 : Int).toNat (wrap64 (-(rd x330002 x1)))), 0)) else (none)) else (none)) else (some (bt332.1, bt332.2.1, bt332.2.2, 0))) else (none)) else (none)))
def view_Flip.f (k : Nat) (a0_0 : Int) (l0_1 : List Int) (l0_2 : List Int) (a1 : Int) : Option (Int × List Int × List Int × Int) := (view_right.f k a0_0 l0_1 l0_2).bind fun t331 => (if t331 = true then (if a1 < 0 then (view_Flip.j0 k a1 true a0_0 l0_1 l0_2) else (view_Flip.j0 k a1 (decide (a1 ≥ (l0_1.length : Int))) a0_0 l0_1 l0_2)) else (some (0, ([] : List Int), ([] : List Int), 1)))
def view_Flip.T8 : Bool × List (List Nat × List Nat) := (true, [([], []), ([0], [0]), ([], []), ([2], [2]), ([], []), ([4], [4]), ([], []), ([5, 6], [5, 6]), ([7], [7]), ([3, 8], [3, 8]), ([1, 9], [1, 9]), ([0, 1, 2, 3, 4, 5, 6, 7, 8, 9, 10], []), ([11, 10, 0, 1, 2, 3, 4, 5, 6, 7, 8, 9, 10], [10, 11])])
def view_Flip.B8 : List Nat := [0, 1, 0, 4, 0, 16, 0, 112, 240, 508, 1023, 2047, 4095]
theorem view_Flip.tab8 : rtab .any (opsOf Try.f19 8) = view_Flip.T8 := by kernel_rfl
theorem view_Flip.bits8 : waitsOk view_Flip.T8.2 view_Flip.B8 = true := by kernel_rfl
def view_Flip.T9 : Bool × List (List Nat × List Nat) := (true, [([], []), ([0], [0]), ([], []), ([], []), ([3], [3]), ([], []), ([4, 5], [4, 5]), ([6], [6]), ([7], [7]), ([1, 2, 0, 1, 2, 3, 4, 5, 6, 7, 8], [1, 2]), ([9, 8, 0, 1, 2, 3, 4, 5, 6, 7, 8], [8, 9])])
def view_Flip.B9 : List Nat := [0, 1, 0, 0, 8, 0, 56, 120, 248, 511, 1023]
theorem view_Flip.tab9 : rtab .any (opsOf Try.f19 9) = view_Flip.T9 := by kernel_rfl
theorem view_Flip.bits9 : waitsOk view_Flip.T9.2 view_Flip.B9 = true := by kernel_rfl
set_option maxHeartbeats 8000000 in
set_option maxRecDepth 100000 in
theorem view_Flip.calls (k : Nat) (a0_0 : Int) (A0_1 : Option Addr) (c0_1 : Nat) (l0_1 : List Int) (A0_2 : Option Addr) (c0_2 : Nat) (l0_2 : List Int) (a1 : Int) (r1 : Int) (r2 : List Int) (r3 : List Int) (r4 : Int) (w : World) (hr0_1 : Kd.C (Kd.int .i64) w A0_1 l0_1.length l0_1) (hc0_1 : l0_1.length ≤ c0_1) (hr0_2 : Kd.C (Kd.int .i64) w A0_2 l0_2.length l0_2) (hc0_2 : l0_2.length ≤ c0_2) (h : view_Flip.f k a0_0 l0_1 l0_2 a1 = some (r1, r2, r3, r4)) :
  Calls Try.prog 19 #[.agg #[.int .i64 a0_0, .slice A0_1 l0_1.length c0_1, .slice A0_2 l0_2.length c0_2], .int .i64 a1] w fun e w' => ∃ v1_ v2_ : Value, e = .returned (.tuple #[.agg #[.int .i64 r1, v1_, v2_], .int .i64 r4]) ∧ Kd.R (Kd.int .i64) 3 w' w.heap.size (fun k_ => some k_ ≠ (v2_ : Value).ownBlock) v1_ r2 ∧ Kd.R (Kd.int .i64) 3 w' w.heap.size (fun k_ => some k_ ≠ (v1_ : Value).ownBlock) v2_ r3 ∧ Below w.heap.size w w' := by
 have hu24 := Try.underlying24
 have HR0_1 := Aside0.mk hr0_1
 have HC0_1 := Aside0.mk hc0_1
 clear hr0_1 hc0_1
 have HR0_2 := Aside0.mk hr0_2
 have HC0_2 := Aside0.mk hc0_2
 clear hr0_2 hc0_2
 have HB := Aside0.mk (Below.refl w.heap.size w)
 have H : ((view_right.f k a0_0 l0_1 l0_2).bind fun t331 => (if t331 = true then (if a1 < 0 then (view_Flip.j0 k a1 true a0_0 l0_1 l0_2) else (view_Flip.j0 k a1 (decide (a1 ≥ (l0_1.length : Int))) a0_0 l0_1 l0_2)) else (some (0, ([] : List Int), ([] : List Int), 1)))) = some (r1, r2, r3, r4) := h
 clear h
 replace H := Option.bind_eq_some_iff.mp H
 obtain ⟨t331, A30, H⟩ := H
 replace H : (if t331 = true then (if a1 < 0 then (view_Flip.j0 k a1 true a0_0 l0_1 l0_2) else (view_Flip.j0 k a1 (decide (a1 ≥ (l0_1.length : Int))) a0_0 l0_1 l0_2)) else (some (0, ([] : List Int), ([] : List Int), 1))) = some (r1, r2, r3, r4) := H
 have A3 := Aside0.mk A30
 clear A30
 by_cases c4 : t331 = true
 ·subst c4
  have H1 : (if a1 < 0 then (view_Flip.j0 k a1 true a0_0 l0_1 l0_2) else (view_Flip.j0 k a1 (decide (a1 ≥ (l0_1.length : Int))) a0_0 l0_1 l0_2)) = some (r1, r2, r3, r4) := by rw [if_pos rfl] at H; exact H
  clear H
  have H := H1
  clear H1
  have HC5 := Aside0.mk H
  clear H
  go_enter Try.func19, Try.ntmps19
  go_upto_region 3 with (first | ((with_reducible refine gate_dst (N := 2) rfl ?_); (try (refine gate_guard (by rfl) ?_; dsimp only)); refine box_event ?hg (N := 2) ?hd (cs := #[.int .i64 a0_0, .slice A0_1 l0_1.length c0_1, .slice A0_2 l0_2.length c0_2]) (t := 24) ?hr ?_; (case hd => rfl); (case hg => rfl); (case hr => first | (go_simp; done) | (go_simp; rfl)); intro gb329 hg w6 hbox hb; have n0_ := Aside0.mk (below_step (pB HB.out) hb); have n1_ := Aside0.mk (hbox); have n2_ := Aside0.mk ((by rw [hg]; exact (below_size (pB HB.out)) : w.heap.size ≤ gb329)); have n3_ := Aside0.mk ((by rw [hg]; exact (below_size (pB HB.out)) : w.heap.size ≤ gb329)); clear HB; have HB := n0_; have BK329 := n1_; have GW329 := n2_; have GE329 := n3_; clear n0_ n1_ n2_ n3_; clear hb hbox hg) | ((with_reducible refine gate_dst (N := 4) rfl ?_); (try (refine gate_guard (by rfl) ?_; dsimp only)); refine box_event ?hg (N := 4) ?hd (cs := #[.int .i64 0, .slice none 0 0, .slice none 0 0]) (t := 24) ?hr ?_; (case hd => rfl); (case hg => rfl); (case hr => first | (go_simp; done) | (go_simp; rfl)); intro gb330 hg w7 hbox hb; have n0_ := Aside0.mk (blk_below (g := gb329) (pK BK329.out) hb); have n1_ := Aside0.mk (below_step (pB1 HB.out GE329.out) hb); have n2_ := Aside0.mk (hbox); have n3_ := Aside0.mk ((by rw [hg]; exact (below_size (pB1 HB.out GE329.out)) : w.heap.size ≤ gb330)); have n4_ := Aside0.mk ((by rw [hg]; exact (below_size (pB1 HB.out GE329.out)) : w.heap.size ≤ gb330)); have n5_ := Aside0.mk ((by rw [hg]; exact Nat.ne_of_lt (blk_lt (g := gb329) (pK BK329.out)) : gb329 ≠ gb330)); have n6_ := Aside0.mk ((by rw [hg]; exact Nat.ne_of_gt (blk_lt (g := gb329) (pK BK329.out)) : gb330 ≠ gb329)); clear BK329; clear HB; have BK329 := n0_; have HB := n1_; have BK330 := n2_; have GW330 := n3_; have GE330 := n4_; have NB329_330 := n5_; have NB330_329 := n6_; clear n0_ n1_ n2_ n3_ n4_ n5_ n6_; clear hb hbox hg; have hnb8 := NB329_330.out; have hnc8 := NB330_329.out; have hcz9_0 : w7.cell? ⟨gb329, 0, none⟩ = some (.int .i64 a0_0) := (blk_cell BK329.out 0).trans rfl; have hcz9_1 : w7.cell? ⟨gb329, 1, none⟩ = some (.slice A0_1 l0_1.length c0_1) := (blk_cell BK329.out 1).trans rfl; have hcz9_2 : w7.cell? ⟨gb329, 2, none⟩ = some (.slice A0_2 l0_2.length c0_2) := (blk_cell BK329.out 2).trans rfl; have hfz9_0 := blk_frozen BK329.out 0; have hfz9_1 := blk_frozen BK329.out 1; have hfz9_2 := blk_frozen BK329.out 2) | ((with_reducible refine gate_callee (f := 39) rfl ?_); refine goesL_ (some 9) rfl rfl Try.func39 (by kernel_rfl) rfl #[.agg #[.int .i64 a0_0, .slice A0_1 l0_1.length c0_1, .slice A0_2 l0_2.length c0_2]] rfl pA ?_; (with_reducible refine (view_right.calls k a0_0 _ _ l0_1 _ _ l0_2 true _ ?side1 ?side2 ?side3 ?side4 A3.out).mono ?_); (case side1 => exact pC (Kd.C_below HR0_1.out HB.out)); (case side2 => exact HC0_1.out); (case side3 => exact pC (Kd.C_below HR0_2.out HB.out)); (case side4 => exact HC0_2.out); rintro e w10 ⟨rfl, hb⟩; refine ⟨_, rfl, ?_⟩; have n0_ := Aside0.mk (blk_below (g := gb329) (pK BK329.out) hb); have n1_ := Aside0.mk (blk_below (g := gb330) (pK BK330.out) hb); have n2_ := Aside0.mk (below_step (pB2 HB.out GE329.out GE330.out) hb); clear BK329; clear BK330; clear HB; have BK329 := n0_; have BK330 := n1_; have HB := n2_; clear n0_ n1_ n2_; (try clear hb); (try clear hb2); (try clear hk); (try clear hi)))
  (try simp only [Act.put, List.setIfInBounds_toArray, List.set_cons_zero, List.set_cons_succ])
  go_cut [20] (fun v20 wc => ∃ (kq : Nat) (x20_4 : Bool), v20 = .bool x20_4 ∧ Aside0 (view_Flip.j0 kq a1 x20_4 a0_0 l0_1 l0_2 = some (r1, r2, r3, r4)) ∧ Aside0 (kq ≤ k) ∧ Aside0 (wc.heap[gb329]? = some (.cells #[.int .i64 a0_0, (.slice A0_1 l0_1.length c0_1), (.slice A0_2 l0_2.length c0_2)] 24 (0, 0))) ∧ Aside0 (wc.heap[gb330]? = some (.cells #[.int .i64 0, (.slice none 0 0), (.slice none 0 0)] 24 (0, 0))) ∧ Aside0 (Below w.heap.size w wc))
  case first =>
   have H := HC5.out
   clear HC5
   by_cases c11 : a1 < 0
   ·rw [if_pos c11] at H
    have c11b0 : decide (a1 < 0) = true := decide_eq_true c11
    clear c11
    (first | rw [c11b0] | (simp only [i64_w, i32_w]; rw [c11b0]) | skip)
    have H' := Aside0.mk H
    clear H
    go_wp2
    go_meet
    case rel => exact ⟨_, (true), (pF), H', ⟨by first | omega | exact Nat.le_refl _⟩, ⟨by (with_reducible repeat (first | apply bN | apply bD | apply bA)); exact BK329.out⟩, ⟨by (with_reducible repeat (first | apply bN | apply bD | apply bA)); exact BK330.out⟩, ⟨pB2 HB.out GE329.out GE330.out⟩⟩
   ·rw [if_neg c11] at H
    have c11b0 : decide (a1 < 0) = false := decide_eq_false c11
    clear c11
    (first | rw [c11b0] | (simp only [i64_w, i32_w]; rw [c11b0]) | skip)
    have H' := Aside0.mk H
    clear H
    have hnb12 := NB329_330.out
    have hnc12 := NB330_329.out
    have hcz13_0 : w10.cell? ⟨gb329, 0, none⟩ = some (.int .i64 a0_0) := (blk_cell BK329.out 0).trans rfl
    have hcz13_1 : w10.cell? ⟨gb329, 1, none⟩ = some (.slice A0_1 l0_1.length c0_1) := (blk_cell BK329.out 1).trans rfl
    have hcz13_2 : w10.cell? ⟨gb329, 2, none⟩ = some (.slice A0_2 l0_2.length c0_2) := (blk_cell BK329.out 2).trans rfl
    have hfz13_0 := blk_frozen BK329.out 0
    have hfz13_1 := blk_frozen BK329.out 1
    have hfz13_2 := blk_frozen BK329.out 2
    go_wp2
    go_meet
    case rel => exact ⟨_, (decide (a1 ≥ (l0_1.length : Int))), (pF), H', ⟨by first | omega | exact Nat.le_refl _⟩, ⟨by (with_reducible repeat (first | apply bN | apply bD | apply bA)); exact BK329.out⟩, ⟨by (with_reducible repeat (first | apply bN | apply bD | apply bA)); exact BK330.out⟩, ⟨pB2 HB.out GE329.out GE330.out⟩⟩
  case rest =>
   clear HC5
   try clear c1
   try clear p2
   try clear c3
   try clear c4
   try clear c8
   try clear c11
   try clear c11b0
   try clear c12
   try clear hcz13_0
   try clear hcz13_1
   try clear hcz13_2
   try clear hcz9_0
   try clear hcz9_1
   try clear hcz9_2
   try clear hfz13_0
   try clear hfz13_1
   try clear hfz13_2
   try clear hfz9_0
   try clear hfz9_1
   try clear hfz9_2
   obtain ⟨kq, x20_4, rfl, HA, HJ4, BK329, BK330, HB⟩ := hcut
   cases kq with
   | zero => exact absurd HA.out (by simp [view_Flip.j0])
   | succ kj4 =>
    have H := HA.out
    clear HA
    simp only [view_Flip.j0] at H
    by_cases c14 : x20_4 = true
    ·subst c14
     have H1 : (some (0, ([] : List Int), ([] : List Int), 10)) = some (r1, r2, r3, r4) := by rw [if_pos rfl] at H; exact H
     clear H
     have H := H1
     clear H1
     simp only [Option.some.injEq, Prod.mk.injEq] at H
     obtain ⟨rfl, rfl, rfl, rfl⟩ := H
     have hnb15 := NB330_329.out
     have hnc15 := NB329_330.out
     have hcz16_0 : wc.cell? ⟨gb330, 0, none⟩ = some (.int .i64 0) := (blk_cell BK330.out 0).trans rfl
     have hcz16_1 : wc.cell? ⟨gb330, 1, none⟩ = some (.slice none 0 0) := (blk_cell BK330.out 1).trans rfl
     have hcz16_2 : wc.cell? ⟨gb330, 2, none⟩ = some (.slice none 0 0) := (blk_cell BK330.out 2).trans rfl
     have hfz16_0 := blk_frozen BK330.out 0
     have hfz16_1 := blk_frozen BK330.out 1
     have hfz16_2 := blk_frozen BK330.out 2
     go_wp2
     refine bodyPost_ret (results_ct rfl _ _ gb330 24 #[.int .i64 0, .slice none 0 0, .slice none 0 0] (0, 0) _ rfl (by (with_reducible repeat (first | apply bN | apply bD | apply bA)); refine blk_put (cs := #[.int .i64 0, .slice none 0 0, .slice none 0 0]) ?_ 2 _ rfl; (with_reducible repeat (first | apply bN | apply bD | apply bA)); refine blk_put (cs := #[.int .i64 0, .slice none 0 0, .slice none 0 0]) ?_ 1 _ rfl; (with_reducible repeat (first | apply bN | apply bD | apply bA)); refine blk_put (cs := #[.int .i64 0, .slice none 0 0, .slice none 0 0]) ?_ 0 _ rfl; (with_reducible repeat (first | apply bN | apply bD | apply bA)); exact BK330.out) Try.underlying24 rfl (by kernel_rfl)) rfl ?_
     exact ⟨_, _, pE, by first | exact Kd.R_nil _ _ _ _ _ | exact Kd.N_nil _ _ _ _ _ | exact Kd.V_nil _ _ _ _ _ | exact Kd.Q_nil _ _ _ _ _ | exact Kd.S_nil _ _ _ _ _, by first | exact Kd.R_nil _ _ _ _ _ | exact Kd.N_nil _ _ _ _ _ | exact Kd.V_nil _ _ _ _ _ | exact Kd.Q_nil _ _ _ _ _ | exact Kd.S_nil _ _ _ _ _, pB2 HB.out GE329.out GE330.out⟩
    ·replace c14 := Bool.eq_false_iff.mpr c14
     subst c14
     have H1 : ((view_copied.f a0_0 l0_1 l0_2).bind fun bt332 => (if 0 ≤ a1 then (if a1 < (l0_1.length : Int) then (if (rd l0_1 a1) > 1 then (if a1 < (l0_2.length : Int) then (if a1 < (bt332.2.2.length : Int) then (some (wrap64 (bt332.1 + (wrap64 ((wrap64 ((rd l0_1 a1) - 1)) * (rd l0_2 a1)))), bt332.2.1, (bt332.2.2.set (a1 : Int).toNat (wrap64 (-(rd l0_2 a1)))), 0)) else (none)) else (none)) else (some (bt332.1, bt332.2.1, bt332.2.2, 0))) else (none)) else (none))) = some (r1, r2, r3, r4) := by rw [if_neg (show ¬ (false = true) by decide)] at H; exact H
     clear H
     have H := H1
     clear H1
     replace H := Option.bind_eq_some_iff.mp H
     obtain ⟨⟨t332, t333, t336⟩, A170, H⟩ := H
     replace H : (if 0 ≤ a1 then (if a1 < (l0_1.length : Int) then (if (rd l0_1 a1) > 1 then (if a1 < (l0_2.length : Int) then (if a1 < (t336.length : Int) then (some (wrap64 (t332 + (wrap64 ((wrap64 ((rd l0_1 a1) - 1)) * (rd l0_2 a1)))), t333, (t336.set (a1 : Int).toNat (wrap64 (-(rd l0_2 a1)))), 0)) else (none)) else (none)) else (some (t332, t333, t336, 0))) else (none)) else (none)) = some (r1, r2, r3, r4) := H
     have A17 := Aside0.mk A170
     clear A170
     by_cases c18 : 0 ≤ a1
     ·rw [if_pos c18] at H
      have c18b0 : decide (0 ≤ a1) = true := decide_eq_true c18
      clear c18
      by_cases c19 : a1 < (l0_1.length : Int)
      ·rw [if_pos c19] at H
       have c19b0 : decide (a1 < (l0_1.length : Int)) = true := decide_eq_true c19
       clear c19
       by_cases c20 : (rd l0_1 a1) > 1
       ·rw [if_pos c20] at H
        have c20b0 : decide (1 < (rd l0_1 a1)) = true := decide_eq_true c20
        clear c20
        by_cases c21 : a1 < (l0_2.length : Int)
        ·rw [if_pos c21] at H
         have c21b0 : decide (a1 < (l0_2.length : Int)) = true := decide_eq_true c21
         clear c21
         by_cases c22 : a1 < (t336.length : Int)
         ·rw [if_pos c22] at H
          have c22b0 : decide (a1 < (t336.length : Int)) = true := decide_eq_true c22
          clear c22
          obtain ⟨y343, hy343⟩ : ∃ y_ : List Int, y_ = (t336.set (a1 : Int).toNat (wrap64 (-(rd l0_2 a1)))) := ⟨_, rfl⟩
          replace H : (some (wrap64 (t332 + (wrap64 ((wrap64 ((rd l0_1 a1) - 1)) * (rd l0_2 a1)))), t333, y343, 0)) = some (r1, r2, r3, r4) := by first | (rw [hy343]; with_reducible exact H) | (have H2_ := (Option.bind_some _ _).symm.trans H; rw [hy343]; with_reducible exact H2_) | (have H2_ := (Option.bind_some _ _).symm.trans H; with_reducible exact H2_) | with_reducible exact H | (rw [hy343]; exact H) | exact H
          have Ny343 := Aside0.mk hy343
          clear hy343
          simp only [Option.some.injEq, Prod.mk.injEq] at H
          obtain ⟨rfl, rfl, rfl, rfl⟩ := H
          have hnb24 := NB329_330.out
          have hnc24 := NB330_329.out
          have hcz25_0 : wc.cell? ⟨gb329, 0, none⟩ = some (.int .i64 a0_0) := (blk_cell BK329.out 0).trans rfl
          have hcz25_1 : wc.cell? ⟨gb329, 1, none⟩ = some (.slice A0_1 l0_1.length c0_1) := (blk_cell BK329.out 1).trans rfl
          have hcz25_2 : wc.cell? ⟨gb329, 2, none⟩ = some (.slice A0_2 l0_2.length c0_2) := (blk_cell BK329.out 2).trans rfl
          have hfz25_0 := blk_frozen BK329.out 0
          have hfz25_1 := blk_frozen BK329.out 1
          have hfz25_2 := blk_frozen BK329.out 2
          try go_wp2_with (first | ((with_reducible refine gate_callee (f := 45) rfl ?_); refine goesL_ (some 23) rfl rfl Try.func45 (by kernel_rfl) rfl #[.agg #[.int .i64 a0_0, .slice A0_1 l0_1.length c0_1, .slice A0_2 l0_2.length c0_2]] rfl pA ?_; (with_reducible refine (view_copied.calls a0_0 _ _ l0_1 _ _ l0_2 t332 t333 t336 _ ?side1 ?side2 ?side3 ?side4 A17.out).mono ?_); (case side1 => exact pC (Kd.C_below HR0_1.out HB.out)); (case side2 => exact HC0_1.out); (case side3 => exact pC (Kd.C_below HR0_2.out HB.out)); (case side4 => exact HC0_2.out); rintro e w26 ⟨v334, v337, rfl, ho0, ho1, hb⟩; refine ⟨_, rfl, ?_⟩; have n0_ := Aside0.mk (Kd.R_lower ho0 (below_size (pB2 HB.out GE329.out GE330.out))); have n1_ := Aside0.mk (Kd.R_lower ho1 (below_size (pB2 HB.out GE329.out GE330.out))); have n2_ := Aside0.mk (blk_below (g := gb329) (pK BK329.out) hb); have n3_ := Aside0.mk (blk_below (g := gb330) (pK BK330.out) hb); have n4_ := Aside0.mk (below_step (pB2 HB.out GE329.out GE330.out) hb); clear BK329; clear BK330; clear HB; have HO335 := n0_; have HO338 := n1_; have BK329 := n2_; have BK330 := n3_; have HB := n4_; clear n0_ n1_ n2_ n3_ n4_; (try clear hb); (try clear hb2); (try clear hk); (try clear hi); (try clear ho0); (try clear ho1)) | ((with_reducible refine gate_dst (N := 6) rfl ?_); (try (refine gate_guard (by rfl) ?_; dsimp only)); refine box_event ?hg (N := 6) ?hd (cs := #[.int .i64 0, .slice none 0 0, .slice none 0 0]) (t := 24) ?hr ?_; (case hd => rfl); (case hg => rfl); (case hr => first | (go_simp; done) | (go_simp; rfl)); intro gb339 hg w27 hbox hb; have n0_ := Aside0.mk (Kd.R_below (pR HO335.out) hb); have n1_ := Aside0.mk (Kd.R_below (pR HO338.out) hb); have n2_ := Aside0.mk (blk_below (g := gb329) (pK BK329.out) hb); have n3_ := Aside0.mk (blk_below (g := gb330) (pK BK330.out) hb); have n4_ := Aside0.mk (below_step (pB2 HB.out GE329.out GE330.out) hb); have n5_ := Aside0.mk (hbox); have n6_ := Aside0.mk ((by rw [hg]; exact (below_size (pB2 HB.out GE329.out GE330.out)) : w.heap.size ≤ gb339)); have n7_ := Aside0.mk ((by rw [hg]; exact (below_size (pB2 HB.out GE329.out GE330.out)) : w.heap.size ≤ gb339)); have n8_ := Aside0.mk ((by rw [hg]; exact Nat.ne_of_lt (blk_lt (g := gb329) (pK BK329.out)) : gb329 ≠ gb339)); have n9_ := Aside0.mk ((by rw [hg]; exact Nat.ne_of_gt (blk_lt (g := gb329) (pK BK329.out)) : gb339 ≠ gb329)); have n10_ := Aside0.mk ((by rw [hg]; exact Nat.ne_of_lt (blk_lt (g := gb330) (pK BK330.out)) : gb330 ≠ gb339)); have n11_ := Aside0.mk ((by rw [hg]; exact Nat.ne_of_gt (blk_lt (g := gb330) (pK BK330.out)) : gb339 ≠ gb330)); clear HO335; clear HO338; clear BK329; clear BK330; clear HB; have HO335 := n0_; have HO338 := n1_; have BK329 := n2_; have BK330 := n3_; have HB := n4_; have BK339 := n5_; have GW339 := n6_; have GE339 := n7_; have NB329_339 := n8_; have NB339_329 := n9_; have NB330_339 := n10_; have NB339_330 := n11_; clear n0_ n1_ n2_ n3_ n4_ n5_ n6_ n7_ n8_ n9_ n10_ n11_; clear hb hbox hg; have hnb28 := NB339_329.out; have hnc28 := NB329_339.out; have hnb29 := NB339_330.out; have hnc29 := NB330_339.out; have hcz30_0 : w27.cell? ⟨gb339, 0, none⟩ = some (.int .i64 0) := (blk_cell BK339.out 0).trans rfl; have hcz30_1 : w27.cell? ⟨gb339, 1, none⟩ = some (.slice none 0 0) := (blk_cell BK339.out 1).trans rfl; have hcz30_2 : w27.cell? ⟨gb339, 2, none⟩ = some (.slice none 0 0) := (blk_cell BK339.out 2).trans rfl; have hfz30_0 := blk_frozen BK339.out 0; have hfz30_1 := blk_frozen BK339.out 1; have hfz30_2 := blk_frozen BK339.out 2; obtain ⟨Ao31, co31, eo31⟩ := Kd.R_slice HO335.out; subst eo31; obtain ⟨Ao32, co32, eo32⟩ := Kd.R_slice HO338.out; subst eo32; have hcz33_0 : w27.cell? ⟨gb329, 0, none⟩ = some (.int .i64 a0_0) := (blk_cell BK329.out 0).trans rfl; have hcz33_1 : w27.cell? ⟨gb329, 1, none⟩ = some (.slice A0_1 l0_1.length c0_1) := (blk_cell BK329.out 1).trans rfl; have hcz33_2 : w27.cell? ⟨gb329, 2, none⟩ = some (.slice A0_2 l0_2.length c0_2) := (blk_cell BK329.out 2).trans rfl; have hfz33_0 := blk_frozen BK329.out 0; have hfz33_1 := blk_frozen BK329.out 1; have hfz33_2 := blk_frozen BK329.out 2; have p340 : 0 ≤ (a1 : Int) := of_decide_eq_true pD; have q340 : a1 < (l0_1.length : Int) := of_decide_eq_true pD; obtain ⟨ad340, e340, hx340_0⟩ := Kd.at_int HR0_1.out a1 p340 q340; cases e340; have hn340_0 : ad340.block ≠ gb339 := Nat.ne_of_lt (Nat.lt_of_lt_of_le (by have := World.block_lt_of_cell? _ _ hx340_0; first | rwa [add_block] at this | exact this) GW339.out); have hn340_1 : ad340.block ≠ gb339 := Nat.ne_of_lt (Nat.lt_of_lt_of_le (by have := World.block_lt_of_cell? _ _ hx340_0; first | rwa [add_block] at this | exact this) GW339.out); have hn340_2 : ad340.block ≠ gb339 := Nat.ne_of_lt (Nat.lt_of_lt_of_le (by have := World.block_lt_of_cell? _ _ hx340_0; first | rwa [add_block] at this | exact this) GW339.out); replace hx340_0 := (HB.out.cell (World.block_lt_of_cell? w _ hx340_0)).trans hx340_0; replace hx340_0 := (cell_far (p := ⟨gb339, 0, none⟩) (by first | (rw [add_block]; exact hn340_0) | (show (Addr.add _ _).block ≠ _; rw [add_block]; exact hn340_0) | exact hn340_0) (.int .i64 t332)).trans hx340_0; replace hx340_0 := (cell_far (p := ⟨gb339, 1, none⟩) (by first | (rw [add_block]; exact hn340_1) | (show (Addr.add _ _).block ≠ _; rw [add_block]; exact hn340_1) | exact hn340_1) (.slice Ao31 t333.length co31)).trans hx340_0; replace hx340_0 := (cell_far (p := ⟨gb339, 2, none⟩) (by first | (rw [add_block]; exact hn340_2) | (show (Addr.add _ _).block ≠ _; rw [add_block]; exact hn340_2) | exact hn340_2) (.slice Ao32 t336.length co32)).trans hx340_0; clear hn340_0; clear hn340_1; clear hn340_2; replace p340 := eq_true p340; replace q340 := eq_true q340))
          have n0_ : Aside0 (Kd.R (Kd.int .i64) 3 (((w27.setCell ⟨gb339, 0, none⟩ (.int .i64 t332)).setCell ⟨gb339, 1, none⟩ (.slice Ao31 t333.length co31)).setCell ⟨gb339, 2, none⟩ (.slice Ao32 t336.length co32)) w.heap.size (fun k_ => some k_ ≠ (.slice Ao32 t336.length co32 : Value).ownBlock) (.slice Ao31 t333.length co31) t333) := ⟨by (with_reducible repeat (first | apply Kd.R_alloc | apply Kd.R_drewN | apply Kd.R_drew)); exact Kd.R_mono (Kd.R_far (p := ⟨gb339, 2, none⟩) (Kd.R_far (p := ⟨gb339, 1, none⟩) (Kd.R_far (p := ⟨gb339, 0, none⟩) (Kd.R_types HO335.out BK339.out (by decide)) (fun _ hk => hk.2) (.int .i64 t332)) (fun _ hk => hk.2) (.slice Ao31 t333.length co31)) (fun _ hk => hk.2) (.slice Ao32 t336.length co32)) (fun _ hk => hk.1)⟩
          have n1_ : Aside0 (Kd.R (Kd.int .i64) 3 (((w27.setCell ⟨gb339, 0, none⟩ (.int .i64 t332)).setCell ⟨gb339, 1, none⟩ (.slice Ao31 t333.length co31)).setCell ⟨gb339, 2, none⟩ (.slice Ao32 t336.length co32)) w.heap.size (fun k_ => some k_ ≠ (.slice Ao31 t333.length co31 : Value).ownBlock) (.slice Ao32 t336.length co32) t336) := ⟨by (with_reducible repeat (first | apply Kd.R_alloc | apply Kd.R_drewN | apply Kd.R_drew)); exact Kd.R_mono (Kd.R_far (p := ⟨gb339, 2, none⟩) (Kd.R_far (p := ⟨gb339, 1, none⟩) (Kd.R_far (p := ⟨gb339, 0, none⟩) (Kd.R_types HO338.out BK339.out (by decide)) (fun _ hk => hk.2) (.int .i64 t332)) (fun _ hk => hk.2) (.slice Ao31 t333.length co31)) (fun _ hk => hk.2) (.slice Ao32 t336.length co32)) (fun _ hk => hk.1)⟩
          have n2_ : Aside0 ((((w27.setCell ⟨gb339, 0, none⟩ (.int .i64 t332)).setCell ⟨gb339, 1, none⟩ (.slice Ao31 t333.length co31)).setCell ⟨gb339, 2, none⟩ (.slice Ao32 t336.length co32)).heap[gb329]? = some (.cells #[.int .i64 a0_0, .slice (some ad340) l0_1.length c0_1, .slice A0_2 l0_2.length c0_2] 24 (0, 0))) := ⟨by (with_reducible repeat (first | apply bN | apply bD | apply bA)); refine blk_far ?_ NB329_339.out _; (with_reducible repeat (first | apply bN | apply bD | apply bA)); refine blk_far ?_ NB329_339.out _; (with_reducible repeat (first | apply bN | apply bD | apply bA)); refine blk_far ?_ NB329_339.out _; (with_reducible repeat (first | apply bN | apply bD | apply bA)); exact BK329.out⟩
          have n3_ : Aside0 ((((w27.setCell ⟨gb339, 0, none⟩ (.int .i64 t332)).setCell ⟨gb339, 1, none⟩ (.slice Ao31 t333.length co31)).setCell ⟨gb339, 2, none⟩ (.slice Ao32 t336.length co32)).heap[gb330]? = some (.cells #[.int .i64 0, .slice none 0 0, .slice none 0 0] 24 (0, 0))) := ⟨by (with_reducible repeat (first | apply bN | apply bD | apply bA)); refine blk_far ?_ NB330_339.out _; (with_reducible repeat (first | apply bN | apply bD | apply bA)); refine blk_far ?_ NB330_339.out _; (with_reducible repeat (first | apply bN | apply bD | apply bA)); refine blk_far ?_ NB330_339.out _; (with_reducible repeat (first | apply bN | apply bD | apply bA)); exact BK330.out⟩
          have n4_ : Aside0 ((((w27.setCell ⟨gb339, 0, none⟩ (.int .i64 t332)).setCell ⟨gb339, 1, none⟩ (.slice Ao31 t333.length co31)).setCell ⟨gb339, 2, none⟩ (.slice Ao32 t336.length co32)).heap[gb339]? = some (.cells #[.int .i64 t332, .slice Ao31 t333.length co31, .slice Ao32 t336.length co32] 24 (0, 0))) := ⟨by (with_reducible repeat (first | apply bN | apply bD | apply bA)); refine blk_put (cs := #[.int .i64 t332, .slice Ao31 t333.length co31, .slice none 0 0]) ?_ 2 _ rfl; (with_reducible repeat (first | apply bN | apply bD | apply bA)); refine blk_put (cs := #[.int .i64 t332, .slice none 0 0, .slice none 0 0]) ?_ 1 _ rfl; (with_reducible repeat (first | apply bN | apply bD | apply bA)); refine blk_put (cs := #[.int .i64 0, .slice none 0 0, .slice none 0 0]) ?_ 0 _ rfl; (with_reducible repeat (first | apply bN | apply bD | apply bA)); exact BK339.out⟩
          have n5_ : Aside0 (Below w.heap.size w (((w27.setCell ⟨gb339, 0, none⟩ (.int .i64 t332)).setCell ⟨gb339, 1, none⟩ (.slice Ao31 t333.length co31)).setCell ⟨gb339, 2, none⟩ (.slice Ao32 t336.length co32))) := ⟨pB3 HB.out GE329.out GE330.out GE339.out⟩
          (try clear HO335)
          (try clear HO338)
          (try clear BK329)
          (try clear BK330)
          (try clear BK339)
          (try clear HB)
          generalize (((w27.setCell ⟨gb339, 0, none⟩ (.int .i64 t332)).setCell ⟨gb339, 1, none⟩ (.slice Ao31 t333.length co31)).setCell ⟨gb339, 2, none⟩ (.slice Ao32 t336.length co32)) = w34 at n0_ n1_ n2_ n3_ n4_ n5_ ⊢
          have HO335 := n0_
          have HO338 := n1_
          have BK329 := n2_
          have BK330 := n3_
          have BK339 := n4_
          have HB := n5_
          clear n0_ n1_ n2_ n3_ n4_ n5_
          have n0_ := Aside0.mk (Kd.R_drew HO335.out)
          have n1_ := Aside0.mk (Kd.R_drew HO338.out)
          have n2_ := Aside0.mk (blk_drew BK329.out)
          have n3_ := Aside0.mk (blk_drew BK330.out)
          have n4_ := Aside0.mk (blk_drew BK339.out)
          have n5_ := Aside0.mk (below_drew1 HB.out)
          clear HO335
          clear HO338
          clear BK329
          clear BK330
          clear BK339
          clear HB
          have HO335 := n0_
          have HO338 := n1_
          have BK329 := n2_
          have BK330 := n3_
          have BK339 := n4_
          have HB := n5_
          clear n0_ n1_ n2_ n3_ n4_ n5_
          have p341 : 0 ≤ (a1 : Int) := of_decide_eq_true pD
          have q341 : a1 < (l0_2.length : Int) := of_decide_eq_true pD
          obtain ⟨ad341, e341, hx341_0⟩ := Kd.at_int HR0_2.out a1 p341 q341
          have hw341_0 := hx341_0
          cases e341
          replace hx341_0 := (HB.out.cell (World.block_lt_of_cell? w _ hx341_0)).trans hx341_0
          replace p341 := eq_true p341
          replace q341 := eq_true q341
          refine start_ (n := 13) (S := fun w' => w'.cell? ⟨gb339, 0, none⟩ = some (.int .i64 t332) ∧ w'.cell? ⟨gb339, 1, none⟩ = some (.slice Ao31 t333.length co31) ∧ w'.cell? ⟨gb339, 2, none⟩ = some (.slice Ao32 t336.length co32) ∧ w'.cell? ⟨gb329, 0, none⟩ = some (.int .i64 a0_0) ∧ w'.cell? ⟨gb329, 1, none⟩ = some (.slice (some ad340) l0_1.length c0_1) ∧ w'.cell? ⟨gb329, 2, none⟩ = some (.slice (some ad341) l0_2.length c0_2) ∧ w'.cell? (ad341.add (a1).toNat) = some (.int .i64 (rd l0_2 a1))) (ds := [12]) #[false, false, false, false, false, false, false, false, false, false, false, false, false] (by kernel_rfl) rfl rfl ⟨(blk_cell BK339.out 0).trans rfl, (blk_cell BK339.out 1).trans rfl, (blk_cell BK339.out 2).trans rfl, (blk_cell BK329.out 0).trans rfl, (blk_cell BK329.out 1).trans rfl, (blk_cell BK329.out 2).trans rfl, ((HB.out.cell (World.block_lt_of_cell? w _ hw341_0)).trans hw341_0)⟩ (fun hHeld => ?_); refine with_tabW view_Flip.tab8 view_Flip.bits8 (fun HT_ HW_ => ?_)
          generalize w34.drew = w35 at HO335 HO338 BK329 BK330 BK339 HB hx341_0 hHeld ⊢
          refine pP (i := 0) (N := some 31) #[true, false, false, false, false, false, false, false, false, false, false, false, false] rfl rfl HT_.out ?_
          refine pP (i := 2) (N := some 33) #[true, false, true, false, false, false, false, false, false, false, false, false, false] rfl rfl HT_.out ?_
          refine pP (i := 3) (N := some 34) #[true, false, true, true, false, false, false, false, false, false, false, false, false] rfl rfl HT_.out ?_
          refine pP (i := 4) (N := some 35) #[true, false, true, true, true, false, false, false, false, false, false, false, false] rfl rfl HT_.out ?_
          refine pP (i := 6) (N := some 37) #[true, false, true, true, true, false, true, false, false, false, false, false, false] rfl rfl HT_.out ?_
          refine pT (i := 1) (N := some 32) #[true, true, true, true, true, false, true, false, false, false, false, false, false] rfl rfl HT_.out HW_.out hHeld (by rintro w' ⟨s0, s1, s2, s3, s4, s5, s6⟩; go_simp; with_reducible rfl) ?_
          refine pT (i := 5) (N := some 36) #[true, true, true, true, true, true, true, false, false, false, false, false, false] rfl rfl HT_.out HW_.out hHeld (by rintro w' ⟨s0, s1, s2, s3, s4, s5, s6⟩; go_simp; with_reducible rfl) ?_
          refine pP (i := 7) (N := some 38) #[true, true, true, true, true, true, true, true, false, false, false, false, false] rfl rfl HT_.out ?_
          refine pT (i := 8) (N := some 39) #[true, true, true, true, true, true, true, true, true, false, false, false, false] rfl rfl HT_.out HW_.out hHeld (by rintro w' ⟨s0, s1, s2, s3, s4, s5, s6⟩; go_simp; with_reducible rfl) ?_
          refine pP (i := 9) (N := some 40) #[true, true, true, true, true, true, true, true, true, true, false, false, false] rfl rfl HT_.out ?_
          refine pP (i := 10) (N := some 41) #[true, true, true, true, true, true, true, true, true, true, true, false, false] rfl rfl HT_.out ?_
          refine pP (i := 11) (N := some 42) #[true, true, true, true, true, true, true, true, true, true, true, true, false] rfl rfl HT_.out ?_
          refine last_ (i := 12) (N := none) #[true, true, true, true, true, true, true, true, true, true, true, true, true] rfl rfl (one_of HT_.out (by kernel_rfl)) (by decide) (fun K hK => ?_)
          have hs36 : w35.cell? ⟨gb339, 0, none⟩ = some (.int .i64 t332) := (blk_cell BK339.out 0).trans rfl
          have hfs36 := blk_frozen BK339.out 0
          have hns36_0 := NB329_339.out
          have hns36_1 := NB330_339.out
          have hms36_0 := NB339_329.out
          have hms36_1 := NB339_330.out
          refine skip_ (w1 := ?_) (by rfl) rfl ?_ ?_
          rotate_left
          ·go_simp
           rfl
          refine hK.out _ _ ?_
          clear hK K
          refine done_ (done_of HT_.out (by kernel_rfl)) ?_
          try go_wp2
          have n0_ : Aside0 (Kd.R (Kd.int .i64) 3 (w35.setCell ⟨gb339, 0, none⟩ (.int .i64 (wrap64 (t332 + (wrap64 ((wrap64 ((rd l0_1 a1) - 1)) * (rd l0_2 a1))))))) w.heap.size (fun k_ => some k_ ≠ (.slice Ao32 t336.length co32 : Value).ownBlock) (.slice Ao31 t333.length co31) t333) := ⟨by (with_reducible repeat (first | apply Kd.R_alloc | apply Kd.R_drewN | apply Kd.R_drew)); exact Kd.R_mono (Kd.R_far (p := ⟨gb339, 0, none⟩) (Kd.R_types HO335.out BK339.out (by decide)) (fun _ hk => hk.2) (.int .i64 (wrap64 (t332 + (wrap64 ((wrap64 ((rd l0_1 a1) - 1)) * (rd l0_2 a1))))))) (fun _ hk => hk.1)⟩
          have n1_ : Aside0 (Kd.R (Kd.int .i64) 3 (w35.setCell ⟨gb339, 0, none⟩ (.int .i64 (wrap64 (t332 + (wrap64 ((wrap64 ((rd l0_1 a1) - 1)) * (rd l0_2 a1))))))) w.heap.size (fun k_ => some k_ ≠ (.slice Ao31 t333.length co31 : Value).ownBlock) (.slice Ao32 t336.length co32) t336) := ⟨by (with_reducible repeat (first | apply Kd.R_alloc | apply Kd.R_drewN | apply Kd.R_drew)); exact Kd.R_mono (Kd.R_far (p := ⟨gb339, 0, none⟩) (Kd.R_types HO338.out BK339.out (by decide)) (fun _ hk => hk.2) (.int .i64 (wrap64 (t332 + (wrap64 ((wrap64 ((rd l0_1 a1) - 1)) * (rd l0_2 a1))))))) (fun _ hk => hk.1)⟩
          have n2_ : Aside0 ((w35.setCell ⟨gb339, 0, none⟩ (.int .i64 (wrap64 (t332 + (wrap64 ((wrap64 ((rd l0_1 a1) - 1)) * (rd l0_2 a1))))))).heap[gb329]? = some (.cells #[.int .i64 a0_0, .slice (some ad340) l0_1.length c0_1, .slice (some ad341) l0_2.length c0_2] 24 (0, 0))) := ⟨by (with_reducible repeat (first | apply bN | apply bD | apply bA)); refine blk_far ?_ NB329_339.out _; (with_reducible repeat (first | apply bN | apply bD | apply bA)); exact BK329.out⟩
          have n3_ : Aside0 ((w35.setCell ⟨gb339, 0, none⟩ (.int .i64 (wrap64 (t332 + (wrap64 ((wrap64 ((rd l0_1 a1) - 1)) * (rd l0_2 a1))))))).heap[gb330]? = some (.cells #[.int .i64 0, .slice none 0 0, .slice none 0 0] 24 (0, 0))) := ⟨by (with_reducible repeat (first | apply bN | apply bD | apply bA)); refine blk_far ?_ NB330_339.out _; (with_reducible repeat (first | apply bN | apply bD | apply bA)); exact BK330.out⟩
          have n4_ : Aside0 ((w35.setCell ⟨gb339, 0, none⟩ (.int .i64 (wrap64 (t332 + (wrap64 ((wrap64 ((rd l0_1 a1) - 1)) * (rd l0_2 a1))))))).heap[gb339]? = some (.cells #[.int .i64 (wrap64 (t332 + (wrap64 ((wrap64 ((rd l0_1 a1) - 1)) * (rd l0_2 a1))))), .slice Ao31 t333.length co31, .slice Ao32 t336.length co32] 24 (0, 0))) := ⟨by (with_reducible repeat (first | apply bN | apply bD | apply bA)); refine blk_put (cs := #[.int .i64 t332, .slice Ao31 t333.length co31, .slice Ao32 t336.length co32]) ?_ 0 _ rfl; (with_reducible repeat (first | apply bN | apply bD | apply bA)); exact BK339.out⟩
          have n5_ : Aside0 (Below w.heap.size w (w35.setCell ⟨gb339, 0, none⟩ (.int .i64 (wrap64 (t332 + (wrap64 ((wrap64 ((rd l0_1 a1) - 1)) * (rd l0_2 a1)))))))) := ⟨pB3 HB.out GE329.out GE330.out GE339.out⟩
          (try clear HO335)
          (try clear HO338)
          (try clear BK329)
          (try clear BK330)
          (try clear BK339)
          (try clear HB)
          generalize (w35.setCell ⟨gb339, 0, none⟩ (.int .i64 (wrap64 (t332 + (wrap64 ((wrap64 ((rd l0_1 a1) - 1)) * (rd l0_2 a1))))))) = w37 at n0_ n1_ n2_ n3_ n4_ n5_ ⊢
          have HO335 := n0_
          have HO338 := n1_
          have BK329 := n2_
          have BK330 := n3_
          have BK339 := n4_
          have HB := n5_
          clear n0_ n1_ n2_ n3_ n4_ n5_
          have n0_ := Aside0.mk (Kd.R_drew HO335.out)
          have n1_ := Aside0.mk (Kd.R_drew HO338.out)
          have n2_ := Aside0.mk (blk_drew BK329.out)
          have n3_ := Aside0.mk (blk_drew BK330.out)
          have n4_ := Aside0.mk (blk_drew BK339.out)
          have n5_ := Aside0.mk (below_drew1 HB.out)
          clear HO335
          clear HO338
          clear BK329
          clear BK330
          clear BK339
          clear HB
          have HO335 := n0_
          have HO338 := n1_
          have BK329 := n2_
          have BK330 := n3_
          have BK339 := n4_
          have HB := n5_
          clear n0_ n1_ n2_ n3_ n4_ n5_
          have p342 : 0 ≤ (a1 : Int) := of_decide_eq_true pD
          have q342 : a1 < (l0_2.length : Int) := of_decide_eq_true pD
          obtain ⟨ad342, e342, hx342_0⟩ := Kd.at_int HR0_2.out a1 p342 q342
          have hw342_0 := hx342_0
          obtain rfl : ad341 = ad342 := (by injection e342)
          replace hx342_0 := (HB.out.cell (World.block_lt_of_cell? w _ hx342_0)).trans hx342_0
          replace p342 := eq_true p342
          replace q342 := eq_true q342
          have p23 : 0 ≤ (a1 : Int) := of_decide_eq_true pD
          have q23 : (a1 : Int) < ((t336.length : Int) : Int) := of_decide_eq_true pD
          obtain ⟨go23, co23, eo23, gb23, gl23, cl23, HG23⟩ := Kd.R_form HO338.out (by omega)
          (first | cases eo23 | (injection eo23 with ea_ en_ ec_; (first | subst ea_ | (injection ea_ with ea_; subst ea_)); subst ec_; clear en_))
          have GB23 := Aside0.mk gb23
          have GG23 := Aside0.mk HG23
          clear gb23 gl23 HG23
          obtain ⟨hx23_0, hf23_0⟩ := Kd.R_celln 0 HO338.out (a1 : Int) p23 q23
          replace p23 := eq_true p23
          replace q23 := eq_true q23
          have HP39 := Kd.R_putn HO338.out (a1 : Int) (wrap64 (-(rd l0_2 a1)))
          rw [← Ny343.out] at HP39
          have HQ39 := Aside0.mk HP39
          clear HP39
          refine start_ (n := 11) (S := fun w' => w'.cell? ⟨gb339, 0, none⟩ = some (.int .i64 (wrap64 (t332 + (wrap64 ((wrap64 ((rd l0_1 a1) - 1)) * (rd l0_2 a1)))))) ∧ w'.cell? ⟨gb339, 1, none⟩ = some (.slice Ao31 t333.length co31) ∧ w'.cell? ⟨gb339, 2, none⟩ = some (.slice (some ⟨go23, 0, none⟩) t336.length co32) ∧ w'.cell? ⟨gb329, 0, none⟩ = some (.int .i64 a0_0) ∧ w'.cell? ⟨gb329, 1, none⟩ = some (.slice (some ad340) l0_1.length c0_1) ∧ w'.cell? ⟨gb329, 2, none⟩ = some (.slice (some ad341) l0_2.length c0_2) ∧ w'.cell? (ad341.add (a1).toNat) = some (.int .i64 (rd l0_2 a1))) (ds := [10]) #[false, false, false, false, false, false, false, false, false, false, false] (by kernel_rfl) rfl rfl ⟨(blk_cell BK339.out 0).trans rfl, (blk_cell BK339.out 1).trans rfl, (blk_cell BK339.out 2).trans rfl, (blk_cell BK329.out 0).trans rfl, (blk_cell BK329.out 1).trans rfl, (blk_cell BK329.out 2).trans rfl, ((HB.out.cell (World.block_lt_of_cell? w _ hw342_0)).trans hw342_0)⟩ (fun hHeld => ?_); refine with_tabW view_Flip.tab9 view_Flip.bits9 (fun HT_ HW_ => ?_)
          generalize w37.drew = w38 at HO335 HO338 BK329 BK330 BK339 HB GG23 HQ39 hf23_0 hx23_0 hx342_0 hHeld ⊢
          refine pP (i := 0) (N := some 43) #[true, false, false, false, false, false, false, false, false, false, false] rfl rfl HT_.out ?_
          refine pP (i := 2) (N := some 45) #[true, false, true, false, false, false, false, false, false, false, false] rfl rfl HT_.out ?_
          refine pP (i := 3) (N := some 46) #[true, false, true, true, false, false, false, false, false, false, false] rfl rfl HT_.out ?_
          refine pP (i := 5) (N := some 48) #[true, false, true, true, false, true, false, false, false, false, false] rfl rfl HT_.out ?_
          refine pT (i := 1) (N := some 44) #[true, true, true, true, false, true, false, false, false, false, false] rfl rfl HT_.out HW_.out hHeld (by rintro w' ⟨s0, s1, s2, s3, s4, s5, s6⟩; go_simp; with_reducible rfl) ?_
          refine pT (i := 4) (N := some 47) #[true, true, true, true, true, true, false, false, false, false, false] rfl rfl HT_.out HW_.out hHeld (by rintro w' ⟨s0, s1, s2, s3, s4, s5, s6⟩; go_simp; with_reducible rfl) ?_
          refine pP (i := 6) (N := some 49) #[true, true, true, true, true, true, true, false, false, false, false] rfl rfl HT_.out ?_
          refine pT (i := 7) (N := some 50) #[true, true, true, true, true, true, true, true, false, false, false] rfl rfl HT_.out HW_.out hHeld (by rintro w' ⟨s0, s1, s2, s3, s4, s5, s6⟩; go_simp; with_reducible rfl) ?_
          refine pP (i := 8) (N := some 51) #[true, true, true, true, true, true, true, true, true, false, false] rfl rfl HT_.out ?_
          refine pP (i := 9) (N := some 52) #[true, true, true, true, true, true, true, true, true, true, false] rfl rfl HT_.out ?_
          refine last_ (i := 10) (N := none) #[true, true, true, true, true, true, true, true, true, true, true] rfl rfl (one_of HT_.out (by kernel_rfl)) (by decide) (fun K hK => ?_)
          refine skip_ (w1 := ?_) (by rfl) rfl ?_ ?_
          rotate_left
          ·go_simp
           rfl
          refine hK.out _ _ ?_
          clear hK K
          refine done_ (done_of HT_.out (by kernel_rfl)) ?_
          have n0_ : Aside0 (Kd.R (Kd.int .i64) 3 (w38.setCell ⟨go23, (a1 : Int).toNat, none⟩ (.int .i64 (wrap64 (-(rd l0_2 a1))))) w.heap.size (fun k_ => some k_ ≠ (.slice (some ⟨go23, 0, none⟩) t336.length co32 : Value).ownBlock) (.slice Ao31 t333.length co31) t333) := ⟨by (with_reducible repeat (first | apply Kd.R_alloc | apply Kd.R_drewN | apply Kd.R_drew)); exact Kd.R_mono (Kd.R_far (p := ⟨go23, (a1 : Int).toNat, none⟩) (Kd.R_mono HO335.out (fun k_ hk => (⟨hk, fun e_ => hk (by rw [e_]; rfl)⟩ : _ ∧ k_ ≠ go23))) (fun _ hk => hk.2) (.int .i64 (wrap64 (-(rd l0_2 a1))))) (fun _ hk => hk.1)⟩
          have n1_ : Aside0 (Kd.R (Kd.int .i64) 3 (w38.setCell ⟨go23, (a1 : Int).toNat, none⟩ (.int .i64 (wrap64 (-(rd l0_2 a1))))) w.heap.size (fun k_ => some k_ ≠ (.slice Ao31 t333.length co31 : Value).ownBlock) (.slice (some ⟨go23, 0, none⟩) t336.length co32) y343) := ⟨pR HQ39.out⟩
          have n2_ : Aside0 ((w38.setCell ⟨go23, (a1 : Int).toNat, none⟩ (.int .i64 (wrap64 (-(rd l0_2 a1))))).heap[gb329]? = some (.cells #[.int .i64 a0_0, .slice (some ad340) l0_1.length c0_1, .slice (some ad341) l0_2.length c0_2] 24 (0, 0))) := ⟨by (with_reducible repeat (first | apply bN | apply bD | apply bA)); refine blk_far ?_ (by have h_ := Kd.R_ne HO338.out BK329.out (by decide); intro e_; exact h_ (by rw [e_]; rfl)) _; (with_reducible repeat (first | apply bN | apply bD | apply bA)); exact BK329.out⟩
          have n3_ : Aside0 ((w38.setCell ⟨go23, (a1 : Int).toNat, none⟩ (.int .i64 (wrap64 (-(rd l0_2 a1))))).heap[gb330]? = some (.cells #[.int .i64 0, .slice none 0 0, .slice none 0 0] 24 (0, 0))) := ⟨by (with_reducible repeat (first | apply bN | apply bD | apply bA)); refine blk_far ?_ (by have h_ := Kd.R_ne HO338.out BK330.out (by decide); intro e_; exact h_ (by rw [e_]; rfl)) _; (with_reducible repeat (first | apply bN | apply bD | apply bA)); exact BK330.out⟩
          have n4_ : Aside0 ((w38.setCell ⟨go23, (a1 : Int).toNat, none⟩ (.int .i64 (wrap64 (-(rd l0_2 a1))))).heap[gb339]? = some (.cells #[.int .i64 (wrap64 (t332 + (wrap64 ((wrap64 ((rd l0_1 a1) - 1)) * (rd l0_2 a1))))), .slice Ao31 t333.length co31, .slice (some ⟨go23, 0, none⟩) t336.length co32] 24 (0, 0))) := ⟨by (with_reducible repeat (first | apply bN | apply bD | apply bA)); refine blk_far ?_ (by have h_ := Kd.R_ne HO338.out BK339.out (by decide); intro e_; exact h_ (by rw [e_]; rfl)) _; (with_reducible repeat (first | apply bN | apply bD | apply bA)); exact BK339.out⟩
          have n5_ : Aside0 (Below w.heap.size w (w38.setCell ⟨go23, (a1 : Int).toNat, none⟩ (.int .i64 (wrap64 (-(rd l0_2 a1)))))) := ⟨pB4 HB.out GB23.out GE329.out GE330.out GE339.out⟩
          (try clear HO335)
          (try clear HO338)
          (try clear BK329)
          (try clear BK330)
          (try clear BK339)
          (try clear HB)
          generalize (w38.setCell ⟨go23, (a1 : Int).toNat, none⟩ (.int .i64 (wrap64 (-(rd l0_2 a1))))) = w40 at n0_ n1_ n2_ n3_ n4_ n5_ ⊢
          have HO335 := n0_
          have HO338 := n1_
          have BK329 := n2_
          have BK330 := n3_
          have BK339 := n4_
          have HB := n5_
          clear n0_ n1_ n2_ n3_ n4_ n5_
          have hcz41_0 : w40.cell? ⟨gb339, 0, none⟩ = some (.int .i64 (wrap64 (t332 + (wrap64 ((wrap64 ((rd l0_1 a1) - 1)) * (rd l0_2 a1)))))) := (blk_cell BK339.out 0).trans rfl
          have hcz41_1 : w40.cell? ⟨gb339, 1, none⟩ = some (.slice Ao31 t333.length co31) := (blk_cell BK339.out 1).trans rfl
          have hcz41_2 : w40.cell? ⟨gb339, 2, none⟩ = some (.slice (some ⟨go23, 0, none⟩) t336.length co32) := (blk_cell BK339.out 2).trans rfl
          have hfz41_0 := blk_frozen BK339.out 0
          have hfz41_1 := blk_frozen BK339.out 1
          have hfz41_2 := blk_frozen BK339.out 2
          have hcz42_0 : w40.cell? ⟨gb330, 0, none⟩ = some (.int .i64 0) := (blk_cell BK330.out 0).trans rfl
          have hcz42_1 : w40.cell? ⟨gb330, 1, none⟩ = some (.slice none 0 0) := (blk_cell BK330.out 1).trans rfl
          have hcz42_2 : w40.cell? ⟨gb330, 2, none⟩ = some (.slice none 0 0) := (blk_cell BK330.out 2).trans rfl
          have hfz42_0 := blk_frozen BK330.out 0
          have hfz42_1 := blk_frozen BK330.out 1
          have hfz42_2 := blk_frozen BK330.out 2
          try go_wp2
          refine bodyPost_ret (results_ct rfl _ _ gb330 24 #[.int .i64 (wrap64 (t332 + (wrap64 ((wrap64 ((rd l0_1 a1) - 1)) * (rd l0_2 a1))))), .slice Ao31 t333.length co31, .slice (some ⟨go23, 0, none⟩) t336.length co32] (0, 0) _ rfl (by (with_reducible repeat (first | apply bN | apply bD | apply bA)); refine blk_put (cs := #[.int .i64 (wrap64 (t332 + (wrap64 ((wrap64 ((rd l0_1 a1) - 1)) * (rd l0_2 a1))))), .slice Ao31 t333.length co31, .slice none 0 0]) ?_ 2 _ rfl; (with_reducible repeat (first | apply bN | apply bD | apply bA)); refine blk_put (cs := #[.int .i64 (wrap64 (t332 + (wrap64 ((wrap64 ((rd l0_1 a1) - 1)) * (rd l0_2 a1))))), .slice none 0 0, .slice none 0 0]) ?_ 1 _ rfl; (with_reducible repeat (first | apply bN | apply bD | apply bA)); refine blk_put (cs := #[.int .i64 0, .slice none 0 0, .slice none 0 0]) ?_ 0 _ rfl; (with_reducible repeat (first | apply bN | apply bD | apply bA)); exact BK330.out) Try.underlying24 rfl (by kernel_rfl)) rfl ?_
          exact ⟨_, _, pE, by (with_reducible repeat (first | apply Kd.R_alloc | apply Kd.R_drewN | apply Kd.R_drew)); exact Kd.R_mono (Kd.R_far (p := ⟨gb330, 2, none⟩) (Kd.R_far (p := ⟨gb330, 1, none⟩) (Kd.R_far (p := ⟨gb330, 0, none⟩) (Kd.R_types HO335.out BK330.out (by decide)) (fun _ hk => hk.2) (.int .i64 (wrap64 (t332 + (wrap64 ((wrap64 ((rd l0_1 a1) - 1)) * (rd l0_2 a1))))))) (fun _ hk => hk.2) (.slice Ao31 t333.length co31)) (fun _ hk => hk.2) (.slice (some ⟨go23, 0, none⟩) t336.length co32)) (fun _ hk => hk.1), by (with_reducible repeat (first | apply Kd.R_alloc | apply Kd.R_drewN | apply Kd.R_drew)); exact Kd.R_mono (Kd.R_far (p := ⟨gb330, 2, none⟩) (Kd.R_far (p := ⟨gb330, 1, none⟩) (Kd.R_far (p := ⟨gb330, 0, none⟩) (Kd.R_types HO338.out BK330.out (by decide)) (fun _ hk => hk.2) (.int .i64 (wrap64 (t332 + (wrap64 ((wrap64 ((rd l0_1 a1) - 1)) * (rd l0_2 a1))))))) (fun _ hk => hk.2) (.slice Ao31 t333.length co31)) (fun _ hk => hk.2) (.slice (some ⟨go23, 0, none⟩) t336.length co32)) (fun _ hk => hk.1), pB3 HB.out GE329.out GE330.out GE339.out⟩
         ·rw [if_neg c22] at H
          exact absurd H (by simp)
        ·rw [if_neg c21] at H
         exact absurd H (by simp)
       ·rw [if_neg c20] at H
        have c20b0 : decide (1 < (rd l0_1 a1)) = false := decide_eq_false c20
        clear c20
        simp only [Option.some.injEq, Prod.mk.injEq] at H
        obtain ⟨rfl, rfl, rfl, rfl⟩ := H
        have hnb43 := NB329_330.out
        have hnc43 := NB330_329.out
        have hcz44_0 : wc.cell? ⟨gb329, 0, none⟩ = some (.int .i64 a0_0) := (blk_cell BK329.out 0).trans rfl
        have hcz44_1 : wc.cell? ⟨gb329, 1, none⟩ = some (.slice A0_1 l0_1.length c0_1) := (blk_cell BK329.out 1).trans rfl
        have hcz44_2 : wc.cell? ⟨gb329, 2, none⟩ = some (.slice A0_2 l0_2.length c0_2) := (blk_cell BK329.out 2).trans rfl
        have hfz44_0 := blk_frozen BK329.out 0
        have hfz44_1 := blk_frozen BK329.out 1
        have hfz44_2 := blk_frozen BK329.out 2
        go_wp2_with (first | ((with_reducible refine gate_callee (f := 45) rfl ?_); refine goesL_ (some 23) rfl rfl Try.func45 (by kernel_rfl) rfl #[.agg #[.int .i64 a0_0, .slice A0_1 l0_1.length c0_1, .slice A0_2 l0_2.length c0_2]] rfl pA ?_; (with_reducible refine (view_copied.calls a0_0 _ _ l0_1 _ _ l0_2 t332 t333 t336 _ ?side1 ?side2 ?side3 ?side4 A17.out).mono ?_); (case side1 => exact pC (Kd.C_below HR0_1.out HB.out)); (case side2 => exact HC0_1.out); (case side3 => exact pC (Kd.C_below HR0_2.out HB.out)); (case side4 => exact HC0_2.out); rintro e w45 ⟨v334, v337, rfl, ho0, ho1, hb⟩; refine ⟨_, rfl, ?_⟩; have n0_ := Aside0.mk (Kd.R_lower ho0 (below_size (pB2 HB.out GE329.out GE330.out))); have n1_ := Aside0.mk (Kd.R_lower ho1 (below_size (pB2 HB.out GE329.out GE330.out))); have n2_ := Aside0.mk (blk_below (g := gb329) (pK BK329.out) hb); have n3_ := Aside0.mk (blk_below (g := gb330) (pK BK330.out) hb); have n4_ := Aside0.mk (below_step (pB2 HB.out GE329.out GE330.out) hb); clear BK329; clear BK330; clear HB; have HO335 := n0_; have HO338 := n1_; have BK329 := n2_; have BK330 := n3_; have HB := n4_; clear n0_ n1_ n2_ n3_ n4_; (try clear hb); (try clear hb2); (try clear hk); (try clear hi); (try clear ho0); (try clear ho1)) | ((with_reducible refine gate_dst (N := 6) rfl ?_); (try (refine gate_guard (by rfl) ?_; dsimp only)); refine box_event ?hg (N := 6) ?hd (cs := #[.int .i64 0, .slice none 0 0, .slice none 0 0]) (t := 24) ?hr ?_; (case hd => rfl); (case hg => rfl); (case hr => first | (go_simp; done) | (go_simp; rfl)); intro gb339 hg w46 hbox hb; have n0_ := Aside0.mk (Kd.R_below (pR HO335.out) hb); have n1_ := Aside0.mk (Kd.R_below (pR HO338.out) hb); have n2_ := Aside0.mk (blk_below (g := gb329) (pK BK329.out) hb); have n3_ := Aside0.mk (blk_below (g := gb330) (pK BK330.out) hb); have n4_ := Aside0.mk (below_step (pB2 HB.out GE329.out GE330.out) hb); have n5_ := Aside0.mk (hbox); have n6_ := Aside0.mk ((by rw [hg]; exact (below_size (pB2 HB.out GE329.out GE330.out)) : w.heap.size ≤ gb339)); have n7_ := Aside0.mk ((by rw [hg]; exact (below_size (pB2 HB.out GE329.out GE330.out)) : w.heap.size ≤ gb339)); have n8_ := Aside0.mk ((by rw [hg]; exact Nat.ne_of_lt (blk_lt (g := gb329) (pK BK329.out)) : gb329 ≠ gb339)); have n9_ := Aside0.mk ((by rw [hg]; exact Nat.ne_of_gt (blk_lt (g := gb329) (pK BK329.out)) : gb339 ≠ gb329)); have n10_ := Aside0.mk ((by rw [hg]; exact Nat.ne_of_lt (blk_lt (g := gb330) (pK BK330.out)) : gb330 ≠ gb339)); have n11_ := Aside0.mk ((by rw [hg]; exact Nat.ne_of_gt (blk_lt (g := gb330) (pK BK330.out)) : gb339 ≠ gb330)); clear HO335; clear HO338; clear BK329; clear BK330; clear HB; have HO335 := n0_; have HO338 := n1_; have BK329 := n2_; have BK330 := n3_; have HB := n4_; have BK339 := n5_; have GW339 := n6_; have GE339 := n7_; have NB329_339 := n8_; have NB339_329 := n9_; have NB330_339 := n10_; have NB339_330 := n11_; clear n0_ n1_ n2_ n3_ n4_ n5_ n6_ n7_ n8_ n9_ n10_ n11_; clear hb hbox hg; have hnb47 := NB339_329.out; have hnc47 := NB329_339.out; have hnb48 := NB339_330.out; have hnc48 := NB330_339.out; have hcz49_0 : w46.cell? ⟨gb339, 0, none⟩ = some (.int .i64 0) := (blk_cell BK339.out 0).trans rfl; have hcz49_1 : w46.cell? ⟨gb339, 1, none⟩ = some (.slice none 0 0) := (blk_cell BK339.out 1).trans rfl; have hcz49_2 : w46.cell? ⟨gb339, 2, none⟩ = some (.slice none 0 0) := (blk_cell BK339.out 2).trans rfl; have hfz49_0 := blk_frozen BK339.out 0; have hfz49_1 := blk_frozen BK339.out 1; have hfz49_2 := blk_frozen BK339.out 2; obtain ⟨Ao50, co50, eo50⟩ := Kd.R_slice HO335.out; subst eo50; obtain ⟨Ao51, co51, eo51⟩ := Kd.R_slice HO338.out; subst eo51; have hcz52_0 : w46.cell? ⟨gb329, 0, none⟩ = some (.int .i64 a0_0) := (blk_cell BK329.out 0).trans rfl; have hcz52_1 : w46.cell? ⟨gb329, 1, none⟩ = some (.slice A0_1 l0_1.length c0_1) := (blk_cell BK329.out 1).trans rfl; have hcz52_2 : w46.cell? ⟨gb329, 2, none⟩ = some (.slice A0_2 l0_2.length c0_2) := (blk_cell BK329.out 2).trans rfl; have hfz52_0 := blk_frozen BK329.out 0; have hfz52_1 := blk_frozen BK329.out 1; have hfz52_2 := blk_frozen BK329.out 2; have p340 : 0 ≤ (a1 : Int) := of_decide_eq_true pD; have q340 : a1 < (l0_1.length : Int) := of_decide_eq_true pD; obtain ⟨ad340, e340, hx340_0⟩ := Kd.at_int HR0_1.out a1 p340 q340; cases e340; have hn340_0 : ad340.block ≠ gb339 := Nat.ne_of_lt (Nat.lt_of_lt_of_le (by have := World.block_lt_of_cell? _ _ hx340_0; first | rwa [add_block] at this | exact this) GW339.out); have hn340_1 : ad340.block ≠ gb339 := Nat.ne_of_lt (Nat.lt_of_lt_of_le (by have := World.block_lt_of_cell? _ _ hx340_0; first | rwa [add_block] at this | exact this) GW339.out); have hn340_2 : ad340.block ≠ gb339 := Nat.ne_of_lt (Nat.lt_of_lt_of_le (by have := World.block_lt_of_cell? _ _ hx340_0; first | rwa [add_block] at this | exact this) GW339.out); replace hx340_0 := (HB.out.cell (World.block_lt_of_cell? w _ hx340_0)).trans hx340_0; replace hx340_0 := (cell_far (p := ⟨gb339, 0, none⟩) (by first | (rw [add_block]; exact hn340_0) | (show (Addr.add _ _).block ≠ _; rw [add_block]; exact hn340_0) | exact hn340_0) (.int .i64 t332)).trans hx340_0; replace hx340_0 := (cell_far (p := ⟨gb339, 1, none⟩) (by first | (rw [add_block]; exact hn340_1) | (show (Addr.add _ _).block ≠ _; rw [add_block]; exact hn340_1) | exact hn340_1) (.slice Ao50 t333.length co50)).trans hx340_0; replace hx340_0 := (cell_far (p := ⟨gb339, 2, none⟩) (by first | (rw [add_block]; exact hn340_2) | (show (Addr.add _ _).block ≠ _; rw [add_block]; exact hn340_2) | exact hn340_2) (.slice Ao51 t336.length co51)).trans hx340_0; clear hn340_0; clear hn340_1; clear hn340_2; replace p340 := eq_true p340; replace q340 := eq_true q340; have hcz53_0 : w46.cell? ⟨gb330, 0, none⟩ = some (.int .i64 0) := (blk_cell BK330.out 0).trans rfl; have hcz53_1 : w46.cell? ⟨gb330, 1, none⟩ = some (.slice none 0 0) := (blk_cell BK330.out 1).trans rfl; have hcz53_2 : w46.cell? ⟨gb330, 2, none⟩ = some (.slice none 0 0) := (blk_cell BK330.out 2).trans rfl; have hfz53_0 := blk_frozen BK330.out 0; have hfz53_1 := blk_frozen BK330.out 1; have hfz53_2 := blk_frozen BK330.out 2))
        refine bodyPost_ret (results_ct rfl _ _ gb330 24 #[.int .i64 t332, .slice Ao50 t333.length co50, .slice Ao51 t336.length co51] (0, 0) _ rfl (by (with_reducible repeat (first | apply bN | apply bD | apply bA)); refine blk_put (cs := #[.int .i64 t332, .slice Ao50 t333.length co50, .slice none 0 0]) ?_ 2 _ rfl; (with_reducible repeat (first | apply bN | apply bD | apply bA)); refine blk_put (cs := #[.int .i64 t332, .slice none 0 0, .slice none 0 0]) ?_ 1 _ rfl; (with_reducible repeat (first | apply bN | apply bD | apply bA)); refine blk_put (cs := #[.int .i64 0, .slice none 0 0, .slice none 0 0]) ?_ 0 _ rfl; (with_reducible repeat (first | apply bN | apply bD | apply bA)); refine blk_far ?_ NB330_339.out _; (with_reducible repeat (first | apply bN | apply bD | apply bA)); refine blk_far ?_ NB330_339.out _; (with_reducible repeat (first | apply bN | apply bD | apply bA)); refine blk_far ?_ NB330_339.out _; (with_reducible repeat (first | apply bN | apply bD | apply bA)); exact BK330.out) Try.underlying24 rfl (by kernel_rfl)) rfl ?_
        exact ⟨_, _, pE, by (with_reducible repeat (first | apply Kd.R_alloc | apply Kd.R_drewN | apply Kd.R_drew)); exact Kd.R_mono (Kd.R_far (p := ⟨gb330, 2, none⟩) (Kd.R_far (p := ⟨gb330, 1, none⟩) (Kd.R_far (p := ⟨gb330, 0, none⟩) (Kd.R_far (p := ⟨gb339, 2, none⟩) (Kd.R_far (p := ⟨gb339, 1, none⟩) (Kd.R_far (p := ⟨gb339, 0, none⟩) (Kd.R_types (Kd.R_types HO335.out BK339.out (by decide)) BK330.out (by decide)) (fun _ hk => hk.1.2) (.int .i64 t332)) (fun _ hk => hk.1.2) (.slice Ao50 t333.length co50)) (fun _ hk => hk.1.2) (.slice Ao51 t336.length co51)) (fun _ hk => hk.2) (.int .i64 t332)) (fun _ hk => hk.2) (.slice Ao50 t333.length co50)) (fun _ hk => hk.2) (.slice Ao51 t336.length co51)) (fun _ hk => hk.1.1), by (with_reducible repeat (first | apply Kd.R_alloc | apply Kd.R_drewN | apply Kd.R_drew)); exact Kd.R_mono (Kd.R_far (p := ⟨gb330, 2, none⟩) (Kd.R_far (p := ⟨gb330, 1, none⟩) (Kd.R_far (p := ⟨gb330, 0, none⟩) (Kd.R_far (p := ⟨gb339, 2, none⟩) (Kd.R_far (p := ⟨gb339, 1, none⟩) (Kd.R_far (p := ⟨gb339, 0, none⟩) (Kd.R_types (Kd.R_types HO338.out BK339.out (by decide)) BK330.out (by decide)) (fun _ hk => hk.1.2) (.int .i64 t332)) (fun _ hk => hk.1.2) (.slice Ao50 t333.length co50)) (fun _ hk => hk.1.2) (.slice Ao51 t336.length co51)) (fun _ hk => hk.2) (.int .i64 t332)) (fun _ hk => hk.2) (.slice Ao50 t333.length co50)) (fun _ hk => hk.2) (.slice Ao51 t336.length co51)) (fun _ hk => hk.1.1), pB3 HB.out GE329.out GE330.out GE339.out⟩
      ·rw [if_neg c19] at H
       exact absurd H (by simp)
     ·rw [if_neg c18] at H
      exact absurd H (by simp)
 ·replace c4 := Bool.eq_false_iff.mpr c4
  subst c4
  have H1 : (some (0, ([] : List Int), ([] : List Int), 1)) = some (r1, r2, r3, r4) := by rw [if_neg (show ¬ (false = true) by decide)] at H; exact H
  clear H
  have H := H1
  clear H1
  simp only [Option.some.injEq, Prod.mk.injEq] at H
  obtain ⟨rfl, rfl, rfl, rfl⟩ := H
  go_enter Try.func19, Try.ntmps19
  go_wp2_with (first | ((with_reducible refine gate_dst (N := 2) rfl ?_); (try (refine gate_guard (by rfl) ?_; dsimp only)); refine box_event ?hg (N := 2) ?hd (cs := #[.int .i64 a0_0, .slice A0_1 l0_1.length c0_1, .slice A0_2 l0_2.length c0_2]) (t := 24) ?hr ?_; (case hd => rfl); (case hg => rfl); (case hr => first | (go_simp; done) | (go_simp; rfl)); intro gb329 hg w54 hbox hb; have n0_ := Aside0.mk (below_step (pB HB.out) hb); have n1_ := Aside0.mk (hbox); have n2_ := Aside0.mk ((by rw [hg]; exact (below_size (pB HB.out)) : w.heap.size ≤ gb329)); have n3_ := Aside0.mk ((by rw [hg]; exact (below_size (pB HB.out)) : w.heap.size ≤ gb329)); clear HB; have HB := n0_; have BK329 := n1_; have GW329 := n2_; have GE329 := n3_; clear n0_ n1_ n2_ n3_; clear hb hbox hg) | ((with_reducible refine gate_dst (N := 4) rfl ?_); (try (refine gate_guard (by rfl) ?_; dsimp only)); refine box_event ?hg (N := 4) ?hd (cs := #[.int .i64 0, .slice none 0 0, .slice none 0 0]) (t := 24) ?hr ?_; (case hd => rfl); (case hg => rfl); (case hr => first | (go_simp; done) | (go_simp; rfl)); intro gb330 hg w55 hbox hb; have n0_ := Aside0.mk (blk_below (g := gb329) (pK BK329.out) hb); have n1_ := Aside0.mk (below_step (pB1 HB.out GE329.out) hb); have n2_ := Aside0.mk (hbox); have n3_ := Aside0.mk ((by rw [hg]; exact (below_size (pB1 HB.out GE329.out)) : w.heap.size ≤ gb330)); have n4_ := Aside0.mk ((by rw [hg]; exact (below_size (pB1 HB.out GE329.out)) : w.heap.size ≤ gb330)); have n5_ := Aside0.mk ((by rw [hg]; exact Nat.ne_of_lt (blk_lt (g := gb329) (pK BK329.out)) : gb329 ≠ gb330)); have n6_ := Aside0.mk ((by rw [hg]; exact Nat.ne_of_gt (blk_lt (g := gb329) (pK BK329.out)) : gb330 ≠ gb329)); clear BK329; clear HB; have BK329 := n0_; have HB := n1_; have BK330 := n2_; have GW330 := n3_; have GE330 := n4_; have NB329_330 := n5_; have NB330_329 := n6_; clear n0_ n1_ n2_ n3_ n4_ n5_ n6_; clear hb hbox hg; have hnb56 := NB329_330.out; have hnc56 := NB330_329.out; have hcz57_0 : w55.cell? ⟨gb329, 0, none⟩ = some (.int .i64 a0_0) := (blk_cell BK329.out 0).trans rfl; have hcz57_1 : w55.cell? ⟨gb329, 1, none⟩ = some (.slice A0_1 l0_1.length c0_1) := (blk_cell BK329.out 1).trans rfl; have hcz57_2 : w55.cell? ⟨gb329, 2, none⟩ = some (.slice A0_2 l0_2.length c0_2) := (blk_cell BK329.out 2).trans rfl; have hfz57_0 := blk_frozen BK329.out 0; have hfz57_1 := blk_frozen BK329.out 1; have hfz57_2 := blk_frozen BK329.out 2) | ((with_reducible refine gate_callee (f := 39) rfl ?_); refine goesL_ (some 9) rfl rfl Try.func39 (by kernel_rfl) rfl #[.agg #[.int .i64 a0_0, .slice A0_1 l0_1.length c0_1, .slice A0_2 l0_2.length c0_2]] rfl pA ?_; (with_reducible refine (view_right.calls k a0_0 _ _ l0_1 _ _ l0_2 false _ ?side1 ?side2 ?side3 ?side4 A3.out).mono ?_); (case side1 => exact pC (Kd.C_below HR0_1.out HB.out)); (case side2 => exact HC0_1.out); (case side3 => exact pC (Kd.C_below HR0_2.out HB.out)); (case side4 => exact HC0_2.out); rintro e w58 ⟨rfl, hb⟩; refine ⟨_, rfl, ?_⟩; have n0_ := Aside0.mk (blk_below (g := gb329) (pK BK329.out) hb); have n1_ := Aside0.mk (blk_below (g := gb330) (pK BK330.out) hb); have n2_ := Aside0.mk (below_step (pB2 HB.out GE329.out GE330.out) hb); clear BK329; clear BK330; clear HB; have BK329 := n0_; have BK330 := n1_; have HB := n2_; clear n0_ n1_ n2_; (try clear hb); (try clear hb2); (try clear hk); (try clear hi); have hcz59_0 : w58.cell? ⟨gb330, 0, none⟩ = some (.int .i64 0) := (blk_cell BK330.out 0).trans rfl; have hcz59_1 : w58.cell? ⟨gb330, 1, none⟩ = some (.slice none 0 0) := (blk_cell BK330.out 1).trans rfl; have hcz59_2 : w58.cell? ⟨gb330, 2, none⟩ = some (.slice none 0 0) := (blk_cell BK330.out 2).trans rfl; have hfz59_0 := blk_frozen BK330.out 0; have hfz59_1 := blk_frozen BK330.out 1; have hfz59_2 := blk_frozen BK330.out 2))
  refine bodyPost_ret (results_ct rfl _ _ gb330 24 #[.int .i64 0, .slice none 0 0, .slice none 0 0] (0, 0) _ rfl (by (with_reducible repeat (first | apply bN | apply bD | apply bA)); refine blk_put (cs := #[.int .i64 0, .slice none 0 0, .slice none 0 0]) ?_ 2 _ rfl; (with_reducible repeat (first | apply bN | apply bD | apply bA)); refine blk_put (cs := #[.int .i64 0, .slice none 0 0, .slice none 0 0]) ?_ 1 _ rfl; (with_reducible repeat (first | apply bN | apply bD | apply bA)); refine blk_put (cs := #[.int .i64 0, .slice none 0 0, .slice none 0 0]) ?_ 0 _ rfl; (with_reducible repeat (first | apply bN | apply bD | apply bA)); exact BK330.out) Try.underlying24 rfl (by kernel_rfl)) rfl ?_
  exact ⟨_, _, pE, by first | exact Kd.R_nil _ _ _ _ _ | exact Kd.N_nil _ _ _ _ _ | exact Kd.V_nil _ _ _ _ _ | exact Kd.Q_nil _ _ _ _ _ | exact Kd.S_nil _ _ _ _ _, by first | exact Kd.R_nil _ _ _ _ _ | exact Kd.N_nil _ _ _ _ _ | exact Kd.V_nil _ _ _ _ _ | exact Kd.Q_nil _ _ _ _ _ | exact Kd.S_nil _ _ _ _ _, pB2 HB.out GE329.out GE330.out⟩

end Go.Proofs.Ytjbpekblcecneaa.Q
