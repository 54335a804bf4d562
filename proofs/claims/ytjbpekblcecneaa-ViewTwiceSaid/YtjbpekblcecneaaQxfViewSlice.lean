-- Written by this session's program wip/gprint.py, which drives the kit's print.py and puts the session's own texts in for some functions.
import Derived.Test.YtjbpekblcecneaaQx0
import Derived.Test.YtjbpekblcecneaaQxfLowViewRight
import Derived.Test.YtjbpekblcecneaaQxfViewCopied
namespace Go.Proofs.Ytjbpekblcecneaa.Q
open Go.RowKit Go.Proofs.YtjbpekblcecneaaW.PrintWords Go.Proofs.YtjbpekblcecneaaW.PrintLast Go.Proofs.YtjbpekblcecneaaW.PrintMore
attribute [local go_sem] max2_int min2_int max_two min_two max_three min_three max_four min_four   -- for this text's walks alone
set_option linter.unusedVariables false
set_option linter.unusedSimpArgs false

/-! ### view_Slice: function 37 -/
mutual
def view_Slice.j0 : Nat → Int → Int → Int → Int → Bool → Int → List Int → List Int → Option (Int × List Int × List Int × Int)
 | 0, _, _, _, _, _, _, _, _ => none
 | k + 1, x1, x2, x3, x4, x27, x179000, x179001, x179002 => if x27 = true then (some (0, ([] : List Int), ([] : List Int), 10)) else (if 0 ≤ x1 then (if x1 < (x179001.length : Int) then (if x2 < 0 then (view_Slice.j1 k x1 x2 x3 x4 (rd x179001 x1) true x179000 x179001 x179002) else (if x2 ≥ (rd x179001 x1) then (view_Slice.j1 k x1 x2 x3 x4 (rd x179001 x1) true x179000 x179001 x179002) else (if x3 < 1 then (view_Slice.j1 k x1 x2 x3 x4 (rd x179001 x1) true x179000 x179001 x179002) else (view_Slice.j1 k x1 x2 x3 x4 (rd x179001 x1) (decide (x3 > (rd x179001 x1))) x179000 x179001 x179002)))) else (none)) else (none))
def view_Slice.j1 : Nat → Int → Int → Int → Int → Int → Bool → Int → List Int → List Int → Option (Int × List Int × List Int × Int)
 | 0, _, _, _, _, _, _, _, _, _ => none
 | k + 1, x1, x2, x3, x4, x12, x49, x179000, x179001, x179002 => if x49 = true then (some (0, ([] : List Int), ([] : List Int), 11)) else ((view_copied.f x179000 x179001 x179002).bind fun bt182 => (if x3 > 1 then (if x4 = 0 then (view_Slice.j2 k x1 x2 x3 x4 x12 true x179000 x179001 x179002 bt182.1 bt182.2.1 bt182.2.2) else (if x4 ≥ x12 then (view_Slice.j2 k x1 x2 x3 x4 x12 true x179000 x179001 x179002 bt182.1 bt182.2.1 bt182.2.2) else (view_Slice.j2 k x1 x2 x3 x4 x12 (decide (x4 ≤ (wrap64 (-x12)))) x179000 x179001 x179002 bt182.1 bt182.2.1 bt182.2.2))) else (view_Slice.j3 k x1 x2 x3 x179000 x179001 x179002 bt182.1 bt182.2.1 bt182.2.2)))
def view_Slice.j3 : Nat → Int → Int → Int → Int → List Int → List Int → Int → List Int → List Int → Option (Int × List Int × List Int × Int)
 | 0, _, _, _, _, _, _, _, _, _ => none
 | k + 1, x1, x2, x3, x179000, x179001, x179002, x190000, x190001, x190002 => if x2 > 0 then (if 0 ≤ x1 then (if x1 < (x179002.length : Int) then (if x1 < (x190001.length : Int) then ((some (x190001.set (x1 : Int).toNat x3 : List Int)).bind fun y193 => (if x3 = 1 then (if x1 < (x190002.length : Int) then (some (wrap64 (x190000 + (wrap64 (x2 * (rd x179002 x1)))), y193, (x190002.set (x1 : Int).toNat 0), 0)) else (none)) else (some (wrap64 (x190000 + (wrap64 (x2 * (rd x179002 x1)))), y193, x190002, 0)))) else (none)) else (none)) else (none)) else (if 0 ≤ x1 then (if x1 < (x190001.length : Int) then ((some (x190001.set (x1 : Int).toNat x3 : List Int)).bind fun y195 => (if x3 = 1 then (if x1 < (x190002.length : Int) then (some (x190000, y195, (x190002.set (x1 : Int).toNat 0), 0)) else (none)) else (some (x190000, y195, x190002, 0)))) else (none)) else (none))
def view_Slice.j2 : Nat → Int → Int → Int → Int → Int → Bool → Int → List Int → List Int → Int → List Int → List Int → Option (Int × List Int × List Int × Int)
 | 0, _, _, _, _, _, _, _, _, _, _, _, _ => none
 | k + 1, x1, x2, x3, x4, x12, x67, x179000, x179001, x179002, x190000, x190001, x190002 => if x67 = true then (some (0, ([] : List Int), ([] : List Int), 11)) else (if (wrap64 (x2 + (wrap64 ((wrap64 (x3 - 1)) * x4)))) < 0 then (some (0, ([] : List Int), ([] : List Int), 11)) else (if (wrap64 (x2 + (wrap64 ((wrap64 (x3 - 1)) * x4)))) ≥ x12 then (some (0, ([] : List Int), ([] : List Int), 11)) else (if 0 ≤ x1 then (if x1 < (x179002.length : Int) then (if x1 < (x190002.length : Int) then (view_Slice.j3 k x1 x2 x3 x179000 x179001 x179002 x190000 x190001 (x190002.set (x1 : Int).toNat (wrap64 ((rd x179002 x1) * x4)))) else (none)) else (none)) else (none))))
end
def view_Slice.f (k : Nat) (a0_0 : Int) (l0_1 : List Int) (l0_2 : List Int) (a1 : Int) (a2 : Int) (a3 : Int) (a4 : Int) : Option (Int × List Int × List Int × Int) := (view_right.f k a0_0 l0_1 l0_2).bind fun t180 => (if t180 = true then (if a1 < 0 then (view_Slice.j0 k a1 a2 a3 a4 true a0_0 l0_1 l0_2) else (view_Slice.j0 k a1 a2 a3 a4 (decide (a1 ≥ (l0_1.length : Int))) a0_0 l0_1 l0_2)) else (some (0, ([] : List Int), ([] : List Int), 1)))
def view_Slice.T15 : Bool × List (List Nat × List Nat) := (true, [([], []), ([0], [0]), ([], []), ([], []), ([3], [3]), ([], []), ([4, 5], [4, 5]), ([6], [6]), ([], []), ([7, 8], [7, 8]), ([1, 2, 0, 1, 2, 3, 4, 5, 6, 7, 8, 9], [1, 2]), ([10, 9, 0, 1, 2, 3, 4, 5, 6, 7, 8, 9], [9, 10])])
def view_Slice.B15 : List Nat := [0, 1, 0, 0, 8, 0, 56, 120, 0, 504, 1023, 2047]
theorem view_Slice.tab15 : rtab .any (opsOf Try.f37 15) = view_Slice.T15 := by kernel_rfl
theorem view_Slice.bits15 : waitsOk view_Slice.T15.2 view_Slice.B15 = true := by kernel_rfl
def view_Slice.T17 : Bool × List (List Nat × List Nat) := (true, [([], []), ([0], [0]), ([], []), ([], []), ([3], [3]), ([], []), ([4, 5], [4, 5]), ([6], [6]), ([2, 7], [2, 7]), ([1, 8], [1, 8]), ([0, 1, 2, 3, 4, 5, 6, 7, 8, 9], []), ([10, 9, 0, 1, 2, 3, 4, 5, 6, 7, 8, 9], [9, 10])])
def view_Slice.B17 : List Nat := [0, 1, 0, 0, 8, 0, 56, 120, 252, 511, 1023, 2047]
theorem view_Slice.tab17 : rtab .any (opsOf Try.f37 17) = view_Slice.T17 := by kernel_rfl
theorem view_Slice.bits17 : waitsOk view_Slice.T17.2 view_Slice.B17 = true := by kernel_rfl
set_option maxHeartbeats 8000000 in
set_option maxRecDepth 100000 in
theorem view_Slice.calls (k : Nat) (a0_0 : Int) (A0_1 : Option Addr) (c0_1 : Nat) (l0_1 : List Int) (A0_2 : Option Addr) (c0_2 : Nat) (l0_2 : List Int) (a1 : Int) (a2 : Int) (a3 : Int) (a4 : Int) (r1 : Int) (r2 : List Int) (r3 : List Int) (r4 : Int) (w : World) (hr0_1 : Kd.C (Kd.int .i64) w A0_1 l0_1.length l0_1) (hc0_1 : l0_1.length ≤ c0_1) (hr0_2 : Kd.C (Kd.int .i64) w A0_2 l0_2.length l0_2) (hc0_2 : l0_2.length ≤ c0_2) (h : view_Slice.f k a0_0 l0_1 l0_2 a1 a2 a3 a4 = some (r1, r2, r3, r4)) :
  Calls Try.prog 37 #[.agg #[.int .i64 a0_0, .slice A0_1 l0_1.length c0_1, .slice A0_2 l0_2.length c0_2], .int .i64 a1, .int .i64 a2, .int .i64 a3, .int .i64 a4] w fun e w' => ∃ v1_ v2_ : Value, e = .returned (.tuple #[.agg #[.int .i64 r1, v1_, v2_], .int .i64 r4]) ∧ Kd.R (Kd.int .i64) 3 w' w.heap.size (fun k_ => some k_ ≠ (v2_ : Value).ownBlock) v1_ r2 ∧ Kd.R (Kd.int .i64) 3 w' w.heap.size (fun k_ => some k_ ≠ (v1_ : Value).ownBlock) v2_ r3 ∧ Below w.heap.size w w' := by
 have hu24 := Try.underlying24
 have HR0_1 := Aside0.mk hr0_1
 have HC0_1 := Aside0.mk hc0_1
 clear hr0_1 hc0_1
 have HR0_2 := Aside0.mk hr0_2
 have HC0_2 := Aside0.mk hc0_2
 clear hr0_2 hc0_2
 have HB := Aside0.mk (Below.refl w.heap.size w)
 have H : ((view_right.f k a0_0 l0_1 l0_2).bind fun t180 => (if t180 = true then (if a1 < 0 then (view_Slice.j0 k a1 a2 a3 a4 true a0_0 l0_1 l0_2) else (view_Slice.j0 k a1 a2 a3 a4 (decide (a1 ≥ (l0_1.length : Int))) a0_0 l0_1 l0_2)) else (some (0, ([] : List Int), ([] : List Int), 1)))) = some (r1, r2, r3, r4) := h
 clear h
 replace H := Option.bind_eq_some_iff.mp H
 obtain ⟨t180, A60, H⟩ := H
 replace H : (if t180 = true then (if a1 < 0 then (view_Slice.j0 k a1 a2 a3 a4 true a0_0 l0_1 l0_2) else (view_Slice.j0 k a1 a2 a3 a4 (decide (a1 ≥ (l0_1.length : Int))) a0_0 l0_1 l0_2)) else (some (0, ([] : List Int), ([] : List Int), 1))) = some (r1, r2, r3, r4) := H
 have A6 := Aside0.mk A60
 clear A60
 by_cases c7 : t180 = true
 ·subst c7
  have H1 : (if a1 < 0 then (view_Slice.j0 k a1 a2 a3 a4 true a0_0 l0_1 l0_2) else (view_Slice.j0 k a1 a2 a3 a4 (decide (a1 ≥ (l0_1.length : Int))) a0_0 l0_1 l0_2)) = some (r1, r2, r3, r4) := by rw [if_pos rfl] at H; exact H
  clear H
  have H := H1
  clear H1
  have HC8 := Aside0.mk H
  clear H
  go_enter Try.func37, Try.ntmps37
  go_upto_region 3 with (first | ((with_reducible refine gate_dst (N := 5) rfl ?_); (try (refine gate_guard (by rfl) ?_; dsimp only)); refine box_event ?hg (N := 5) ?hd (cs := #[.int .i64 a0_0, .slice A0_1 l0_1.length c0_1, .slice A0_2 l0_2.length c0_2]) (t := 24) ?hr ?_; (case hd => rfl); (case hg => rfl); (case hr => first | (go_simp; done) | (go_simp; rfl)); intro gb178 hg w9 hbox hb; have n0_ := Aside0.mk (below_step (pB HB.out) hb); have n1_ := Aside0.mk (hbox); have n2_ := Aside0.mk ((by rw [hg]; exact (below_size (pB HB.out)) : w.heap.size ≤ gb178)); have n3_ := Aside0.mk ((by rw [hg]; exact (below_size (pB HB.out)) : w.heap.size ≤ gb178)); clear HB; have HB := n0_; have BK178 := n1_; have GW178 := n2_; have GE178 := n3_; clear n0_ n1_ n2_ n3_; clear hb hbox hg) | ((with_reducible refine gate_dst (N := 10) rfl ?_); (try (refine gate_guard (by rfl) ?_; dsimp only)); refine box_event ?hg (N := 10) ?hd (cs := #[.int .i64 0, .slice none 0 0, .slice none 0 0]) (t := 24) ?hr ?_; (case hd => rfl); (case hg => rfl); (case hr => first | (go_simp; done) | (go_simp; rfl)); intro gb179 hg w10 hbox hb; have n0_ := Aside0.mk (blk_below (g := gb178) (pK BK178.out) hb); have n1_ := Aside0.mk (below_step (pB1 HB.out GE178.out) hb); have n2_ := Aside0.mk (hbox); have n3_ := Aside0.mk ((by rw [hg]; exact (below_size (pB1 HB.out GE178.out)) : w.heap.size ≤ gb179)); have n4_ := Aside0.mk ((by rw [hg]; exact (below_size (pB1 HB.out GE178.out)) : w.heap.size ≤ gb179)); have n5_ := Aside0.mk ((by rw [hg]; exact Nat.ne_of_lt (blk_lt (g := gb178) (pK BK178.out)) : gb178 ≠ gb179)); have n6_ := Aside0.mk ((by rw [hg]; exact Nat.ne_of_gt (blk_lt (g := gb178) (pK BK178.out)) : gb179 ≠ gb178)); clear BK178; clear HB; have BK178 := n0_; have HB := n1_; have BK179 := n2_; have GW179 := n3_; have GE179 := n4_; have NB178_179 := n5_; have NB179_178 := n6_; clear n0_ n1_ n2_ n3_ n4_ n5_ n6_; clear hb hbox hg; have hnb11 := NB178_179.out; have hnc11 := NB179_178.out; have hcz12_0 : w10.cell? ⟨gb178, 0, none⟩ = some (.int .i64 a0_0) := (blk_cell BK178.out 0).trans rfl; have hcz12_1 : w10.cell? ⟨gb178, 1, none⟩ = some (.slice A0_1 l0_1.length c0_1) := (blk_cell BK178.out 1).trans rfl; have hcz12_2 : w10.cell? ⟨gb178, 2, none⟩ = some (.slice A0_2 l0_2.length c0_2) := (blk_cell BK178.out 2).trans rfl; have hfz12_0 := blk_frozen BK178.out 0; have hfz12_1 := blk_frozen BK178.out 1; have hfz12_2 := blk_frozen BK178.out 2) | ((with_reducible refine gate_callee (f := 39) rfl ?_); refine goesL_ (some 16) rfl rfl Try.func39 (by kernel_rfl) rfl #[.agg #[.int .i64 a0_0, .slice A0_1 l0_1.length c0_1, .slice A0_2 l0_2.length c0_2]] rfl pA ?_; (with_reducible refine (view_right.calls k a0_0 _ _ l0_1 _ _ l0_2 true _ ?side1 ?side2 ?side3 ?side4 A6.out).mono ?_); (case side1 => exact pC (Kd.C_below HR0_1.out HB.out)); (case side2 => exact HC0_1.out); (case side3 => exact pC (Kd.C_below HR0_2.out HB.out)); (case side4 => exact HC0_2.out); rintro e w13 ⟨rfl, hb⟩; refine ⟨_, rfl, ?_⟩; have n0_ := Aside0.mk (blk_below (g := gb178) (pK BK178.out) hb); have n1_ := Aside0.mk (blk_below (g := gb179) (pK BK179.out) hb); have n2_ := Aside0.mk (below_step (pB2 HB.out GE178.out GE179.out) hb); clear BK178; clear BK179; clear HB; have BK178 := n0_; have BK179 := n1_; have HB := n2_; clear n0_ n1_ n2_; (try clear hb); (try clear hb2); (try clear hk); (try clear hi)))
  (try simp only [Act.put, List.setIfInBounds_toArray, List.set_cons_zero, List.set_cons_succ])
  go_cut [27] (fun v27 wc => ∃ (kq : Nat) (x27_7 : Bool), v27 = .bool x27_7 ∧ Aside0 (view_Slice.j0 kq a1 a2 a3 a4 x27_7 a0_0 l0_1 l0_2 = some (r1, r2, r3, r4)) ∧ Aside0 (kq ≤ k) ∧ Aside0 (wc.heap[gb178]? = some (.cells #[.int .i64 a0_0, (.slice A0_1 l0_1.length c0_1), (.slice A0_2 l0_2.length c0_2)] 24 (0, 0))) ∧ Aside0 (wc.heap[gb179]? = some (.cells #[.int .i64 0, (.slice none 0 0), (.slice none 0 0)] 24 (0, 0))) ∧ Aside0 (Below w.heap.size w wc))
  case first =>
   have H := HC8.out
   clear HC8
   by_cases c14 : a1 < 0
   ·rw [if_pos c14] at H
    have c14b0 : decide (a1 < 0) = true := decide_eq_true c14
    clear c14
    (first | rw [c14b0] | (simp only [i64_w, i32_w]; rw [c14b0]) | skip)
    have H' := Aside0.mk H
    clear H
    go_wp2
    go_meet
    case rel => exact ⟨_, (true), (pF), H', ⟨by first | omega | exact Nat.le_refl _⟩, ⟨by (with_reducible repeat (first | apply bN | apply bD | apply bA)); exact BK178.out⟩, ⟨by (with_reducible repeat (first | apply bN | apply bD | apply bA)); exact BK179.out⟩, ⟨pB2 HB.out GE178.out GE179.out⟩⟩
   ·rw [if_neg c14] at H
    have c14b0 : decide (a1 < 0) = false := decide_eq_false c14
    clear c14
    (first | rw [c14b0] | (simp only [i64_w, i32_w]; rw [c14b0]) | skip)
    have H' := Aside0.mk H
    clear H
    have hnb15 := NB178_179.out
    have hnc15 := NB179_178.out
    have hcz16_0 : w13.cell? ⟨gb178, 0, none⟩ = some (.int .i64 a0_0) := (blk_cell BK178.out 0).trans rfl
    have hcz16_1 : w13.cell? ⟨gb178, 1, none⟩ = some (.slice A0_1 l0_1.length c0_1) := (blk_cell BK178.out 1).trans rfl
    have hcz16_2 : w13.cell? ⟨gb178, 2, none⟩ = some (.slice A0_2 l0_2.length c0_2) := (blk_cell BK178.out 2).trans rfl
    have hfz16_0 := blk_frozen BK178.out 0
    have hfz16_1 := blk_frozen BK178.out 1
    have hfz16_2 := blk_frozen BK178.out 2
    go_wp2
    go_meet
    case rel => exact ⟨_, (decide (a1 ≥ (l0_1.length : Int))), (pF), H', ⟨by first | omega | exact Nat.le_refl _⟩, ⟨by (with_reducible repeat (first | apply bN | apply bD | apply bA)); exact BK178.out⟩, ⟨by (with_reducible repeat (first | apply bN | apply bD | apply bA)); exact BK179.out⟩, ⟨pB2 HB.out GE178.out GE179.out⟩⟩
  case rest =>
   clear HC8
   try clear c1
   try clear p2
   try clear c3
   try clear c7
   try clear c11
   try clear c14
   try clear c14b0
   try clear c15
   try clear hcz12_0
   try clear hcz12_1
   try clear hcz12_2
   try clear hcz16_0
   try clear hcz16_1
   try clear hcz16_2
   try clear hfz12_0
   try clear hfz12_1
   try clear hfz12_2
   try clear hfz16_0
   try clear hfz16_1
   try clear hfz16_2
   obtain ⟨kq, x27_7, rfl, HA, HJ7, BK178, BK179, HB⟩ := hcut
   cases kq with
   | zero => exact absurd HA.out (by simp [view_Slice.j0])
   | succ kj7 =>
    have H := HA.out
    clear HA
    simp only [view_Slice.j0] at H
    by_cases c17 : x27_7 = true
    ·subst c17
     have H1 : (some (0, ([] : List Int), ([] : List Int), 10)) = some (r1, r2, r3, r4) := by rw [if_pos rfl] at H; exact H
     clear H
     have H := H1
     clear H1
     simp only [Option.some.injEq, Prod.mk.injEq] at H
     obtain ⟨rfl, rfl, rfl, rfl⟩ := H
     have hnb18 := NB179_178.out
     have hnc18 := NB178_179.out
     have hcz19_0 : wc.cell? ⟨gb179, 0, none⟩ = some (.int .i64 0) := (blk_cell BK179.out 0).trans rfl
     have hcz19_1 : wc.cell? ⟨gb179, 1, none⟩ = some (.slice none 0 0) := (blk_cell BK179.out 1).trans rfl
     have hcz19_2 : wc.cell? ⟨gb179, 2, none⟩ = some (.slice none 0 0) := (blk_cell BK179.out 2).trans rfl
     have hfz19_0 := blk_frozen BK179.out 0
     have hfz19_1 := blk_frozen BK179.out 1
     have hfz19_2 := blk_frozen BK179.out 2
     go_wp2
     refine bodyPost_ret (results_ct rfl _ _ gb179 24 #[.int .i64 0, .slice none 0 0, .slice none 0 0] (0, 0) _ rfl (by (with_reducible repeat (first | apply bN | apply bD | apply bA)); refine blk_put (cs := #[.int .i64 0, .slice none 0 0, .slice none 0 0]) ?_ 2 _ rfl; (with_reducible repeat (first | apply bN | apply bD | apply bA)); refine blk_put (cs := #[.int .i64 0, .slice none 0 0, .slice none 0 0]) ?_ 1 _ rfl; (with_reducible repeat (first | apply bN | apply bD | apply bA)); refine blk_put (cs := #[.int .i64 0, .slice none 0 0, .slice none 0 0]) ?_ 0 _ rfl; (with_reducible repeat (first | apply bN | apply bD | apply bA)); exact BK179.out) Try.underlying24 rfl (by kernel_rfl)) rfl ?_
     exact ⟨_, _, pE, by first | exact Kd.R_nil _ _ _ _ _ | exact Kd.N_nil _ _ _ _ _ | exact Kd.V_nil _ _ _ _ _ | exact Kd.Q_nil _ _ _ _ _ | exact Kd.S_nil _ _ _ _ _, by first | exact Kd.R_nil _ _ _ _ _ | exact Kd.N_nil _ _ _ _ _ | exact Kd.V_nil _ _ _ _ _ | exact Kd.Q_nil _ _ _ _ _ | exact Kd.S_nil _ _ _ _ _, pB2 HB.out GE178.out GE179.out⟩
    ·replace c17 := Bool.eq_false_iff.mpr c17
     subst c17
     have H1 : (if 0 ≤ a1 then (if a1 < (l0_1.length : Int) then (if a2 < 0 then (view_Slice.j1 kj7 a1 a2 a3 a4 (rd l0_1 a1) true a0_0 l0_1 l0_2) else (if a2 ≥ (rd l0_1 a1) then (view_Slice.j1 kj7 a1 a2 a3 a4 (rd l0_1 a1) true a0_0 l0_1 l0_2) else (if a3 < 1 then (view_Slice.j1 kj7 a1 a2 a3 a4 (rd l0_1 a1) true a0_0 l0_1 l0_2) else (view_Slice.j1 kj7 a1 a2 a3 a4 (rd l0_1 a1) (decide (a3 > (rd l0_1 a1))) a0_0 l0_1 l0_2)))) else (none)) else (none)) = some (r1, r2, r3, r4) := by rw [if_neg (show ¬ (false = true) by decide)] at H; exact H
     clear H
     have H := H1
     clear H1
     by_cases c20 : 0 ≤ a1
     ·rw [if_pos c20] at H
      have c20b0 : decide (0 ≤ a1) = true := decide_eq_true c20
      clear c20
      by_cases c21 : a1 < (l0_1.length : Int)
      ·rw [if_pos c21] at H
       have c21b0 : decide (a1 < (l0_1.length : Int)) = true := decide_eq_true c21
       clear c21
       have HC22 := Aside0.mk H
       clear H
       have hnb23 := NB178_179.out
       have hnc23 := NB179_178.out
       have hcz24_0 : wc.cell? ⟨gb178, 0, none⟩ = some (.int .i64 a0_0) := (blk_cell BK178.out 0).trans rfl
       have hcz24_1 : wc.cell? ⟨gb178, 1, none⟩ = some (.slice A0_1 l0_1.length c0_1) := (blk_cell BK178.out 1).trans rfl
       have hcz24_2 : wc.cell? ⟨gb178, 2, none⟩ = some (.slice A0_2 l0_2.length c0_2) := (blk_cell BK178.out 2).trans rfl
       have hfz24_0 := blk_frozen BK178.out 0
       have hfz24_1 := blk_frozen BK178.out 1
       have hfz24_2 := blk_frozen BK178.out 2
       have p181 : 0 ≤ (a1 : Int) := of_decide_eq_true pD
       have q181 : a1 < (l0_1.length : Int) := of_decide_eq_true pD
       obtain ⟨ad181, e181, hx181_0⟩ := Kd.at_int HR0_1.out a1 p181 q181
       cases e181
       replace hx181_0 := (HB.out.cell (World.block_lt_of_cell? w _ hx181_0)).trans hx181_0
       replace p181 := eq_true p181
       replace q181 := eq_true q181
       go_upto_region 6 with (fail)
       go_cut [49] (fun v49 wc => ∃ (kq : Nat) (x49_21 : Bool), v49 = .bool x49_21 ∧ Aside0 (view_Slice.j1 kq a1 a2 a3 a4 (rd l0_1 a1) x49_21 a0_0 l0_1 l0_2 = some (r1, r2, r3, r4)) ∧ Aside0 (kq ≤ kj7) ∧ Aside0 (wc.heap[gb178]? = some (.cells #[.int .i64 a0_0, (.slice (some ad181) l0_1.length c0_1), (.slice A0_2 l0_2.length c0_2)] 24 (0, 0))) ∧ Aside0 (wc.heap[gb179]? = some (.cells #[.int .i64 0, (.slice none 0 0), (.slice none 0 0)] 24 (0, 0))) ∧ Aside0 (Below w.heap.size w wc))
       case first =>
        have H := HC22.out
        clear HC22
        by_cases c25 : a2 < 0
        ·rw [if_pos c25] at H
         have c25b0 : decide (a2 < 0) = true := decide_eq_true c25
         clear c25
         (first | rw [c25b0] | (simp only [i64_w, i32_w]; rw [c25b0]) | skip)
         have H' := Aside0.mk H
         clear H
         go_wp2
         go_meet
         case rel => exact ⟨_, (true), (pF), H', ⟨by have := HJ7.out; first | omega | exact Nat.le_refl _⟩, ⟨by (with_reducible repeat (first | apply bN | apply bD | apply bA)); exact BK178.out⟩, ⟨by (with_reducible repeat (first | apply bN | apply bD | apply bA)); exact BK179.out⟩, ⟨pB2 HB.out GE178.out GE179.out⟩⟩
        ·rw [if_neg c25] at H
         have c25b0 : decide (a2 < 0) = false := decide_eq_false c25
         clear c25
         (first | rw [c25b0] | (simp only [i64_w, i32_w]; rw [c25b0]) | skip)
         by_cases c26 : a2 ≥ (rd l0_1 a1)
         ·rw [if_pos c26] at H
          have c26b0 : decide ((rd l0_1 a1) ≤ a2) = true := decide_eq_true c26
          clear c26
          have H' := Aside0.mk H
          clear H
          go_wp2
          go_meet
          case rel => exact ⟨_, (true), (pF), H', ⟨by have := HJ7.out; first | omega | exact Nat.le_refl _⟩, ⟨by (with_reducible repeat (first | apply bN | apply bD | apply bA)); exact BK178.out⟩, ⟨by (with_reducible repeat (first | apply bN | apply bD | apply bA)); exact BK179.out⟩, ⟨pB2 HB.out GE178.out GE179.out⟩⟩
         ·rw [if_neg c26] at H
          have c26b0 : decide ((rd l0_1 a1) ≤ a2) = false := decide_eq_false c26
          clear c26
          by_cases c27 : a3 < 1
          ·rw [if_pos c27] at H
           have c27b0 : decide (a3 < 1) = true := decide_eq_true c27
           clear c27
           have H' := Aside0.mk H
           clear H
           go_wp2
           go_meet
           case rel => exact ⟨_, (true), (pF), H', ⟨by have := HJ7.out; first | omega | exact Nat.le_refl _⟩, ⟨by (with_reducible repeat (first | apply bN | apply bD | apply bA)); exact BK178.out⟩, ⟨by (with_reducible repeat (first | apply bN | apply bD | apply bA)); exact BK179.out⟩, ⟨pB2 HB.out GE178.out GE179.out⟩⟩
          ·rw [if_neg c27] at H
           have c27b0 : decide (a3 < 1) = false := decide_eq_false c27
           clear c27
           have H' := Aside0.mk H
           clear H
           go_wp2
           go_meet
           case rel => exact ⟨_, (decide (a3 > (rd l0_1 a1))), (pF), H', ⟨by have := HJ7.out; first | omega | exact Nat.le_refl _⟩, ⟨by (with_reducible repeat (first | apply bN | apply bD | apply bA)); exact BK178.out⟩, ⟨by (with_reducible repeat (first | apply bN | apply bD | apply bA)); exact BK179.out⟩, ⟨pB2 HB.out GE178.out GE179.out⟩⟩
       case rest =>
        clear HC22
        try clear c1
        try clear p1
        try clear q1
        try clear hx1
        try clear c2
        try clear p2
        try clear c3
        try clear c7
        try clear c11
        try clear c14
        try clear c14b0
        try clear c15
        try clear c17
        try clear c18
        try clear p18
        try clear q18
        try clear hx18
        try clear c20
        try clear c20b0
        try clear c21
        try clear c21b0
        try clear c23
        try clear c25
        try clear c25b0
        try clear c26
        try clear c26b0
        try clear c27
        try clear c27b0
        try clear hcz12_0
        try clear hcz12_1
        try clear hcz12_2
        try clear hcz16_0
        try clear hcz16_1
        try clear hcz16_2
        try clear hcz19_0
        try clear hcz19_1
        try clear hcz19_2
        try clear hcz24_0
        try clear hcz24_1
        try clear hcz24_2
        try clear hfz12_0
        try clear hfz12_1
        try clear hfz12_2
        try clear hfz16_0
        try clear hfz16_1
        try clear hfz16_2
        try clear hfz19_0
        try clear hfz19_1
        try clear hfz19_2
        try clear hfz24_0
        try clear hfz24_1
        try clear hfz24_2
        try clear hx181_0
        try clear p181
        try clear p2
        try clear q181
        obtain ⟨kq, x49_21, rfl, HA, HJ21, BK178, BK179, HB⟩ := hcut
        cases kq with
        | zero => exact absurd HA.out (by simp [view_Slice.j1])
        | succ kj21 =>
         have H := HA.out
         clear HA
         simp only [view_Slice.j1] at H
         by_cases c28 : x49_21 = true
         ·subst c28
          have H1 : (some (0, ([] : List Int), ([] : List Int), 11)) = some (r1, r2, r3, r4) := by rw [if_pos rfl] at H; exact H
          clear H
          have H := H1
          clear H1
          simp only [Option.some.injEq, Prod.mk.injEq] at H
          obtain ⟨rfl, rfl, rfl, rfl⟩ := H
          have hnb29 := NB179_178.out
          have hnc29 := NB178_179.out
          have hcz30_0 : wc.cell? ⟨gb179, 0, none⟩ = some (.int .i64 0) := (blk_cell BK179.out 0).trans rfl
          have hcz30_1 : wc.cell? ⟨gb179, 1, none⟩ = some (.slice none 0 0) := (blk_cell BK179.out 1).trans rfl
          have hcz30_2 : wc.cell? ⟨gb179, 2, none⟩ = some (.slice none 0 0) := (blk_cell BK179.out 2).trans rfl
          have hfz30_0 := blk_frozen BK179.out 0
          have hfz30_1 := blk_frozen BK179.out 1
          have hfz30_2 := blk_frozen BK179.out 2
          go_wp2
          refine bodyPost_ret (results_ct rfl _ _ gb179 24 #[.int .i64 0, .slice none 0 0, .slice none 0 0] (0, 0) _ rfl (by (with_reducible repeat (first | apply bN | apply bD | apply bA)); refine blk_put (cs := #[.int .i64 0, .slice none 0 0, .slice none 0 0]) ?_ 2 _ rfl; (with_reducible repeat (first | apply bN | apply bD | apply bA)); refine blk_put (cs := #[.int .i64 0, .slice none 0 0, .slice none 0 0]) ?_ 1 _ rfl; (with_reducible repeat (first | apply bN | apply bD | apply bA)); refine blk_put (cs := #[.int .i64 0, .slice none 0 0, .slice none 0 0]) ?_ 0 _ rfl; (with_reducible repeat (first | apply bN | apply bD | apply bA)); exact BK179.out) Try.underlying24 rfl (by kernel_rfl)) rfl ?_
          exact ⟨_, _, pE, by first | exact Kd.R_nil _ _ _ _ _ | exact Kd.N_nil _ _ _ _ _ | exact Kd.V_nil _ _ _ _ _ | exact Kd.Q_nil _ _ _ _ _ | exact Kd.S_nil _ _ _ _ _, by first | exact Kd.R_nil _ _ _ _ _ | exact Kd.N_nil _ _ _ _ _ | exact Kd.V_nil _ _ _ _ _ | exact Kd.Q_nil _ _ _ _ _ | exact Kd.S_nil _ _ _ _ _, pB2 HB.out GE178.out GE179.out⟩
         ·replace c28 := Bool.eq_false_iff.mpr c28
          subst c28
          have H1 : ((view_copied.f a0_0 l0_1 l0_2).bind fun bt182 => (if a3 > 1 then (if a4 = 0 then (view_Slice.j2 kj21 a1 a2 a3 a4 (rd l0_1 a1) true a0_0 l0_1 l0_2 bt182.1 bt182.2.1 bt182.2.2) else (if a4 ≥ (rd l0_1 a1) then (view_Slice.j2 kj21 a1 a2 a3 a4 (rd l0_1 a1) true a0_0 l0_1 l0_2 bt182.1 bt182.2.1 bt182.2.2) else (view_Slice.j2 kj21 a1 a2 a3 a4 (rd l0_1 a1) (decide (a4 ≤ (wrap64 (-(rd l0_1 a1))))) a0_0 l0_1 l0_2 bt182.1 bt182.2.1 bt182.2.2))) else (view_Slice.j3 kj21 a1 a2 a3 a0_0 l0_1 l0_2 bt182.1 bt182.2.1 bt182.2.2))) = some (r1, r2, r3, r4) := by rw [if_neg (show ¬ (false = true) by decide)] at H; exact H
          clear H
          have H := H1
          clear H1
          replace H := Option.bind_eq_some_iff.mp H
          obtain ⟨⟨t182, t183, t186⟩, A310, H⟩ := H
          replace H : (if a3 > 1 then (if a4 = 0 then (view_Slice.j2 kj21 a1 a2 a3 a4 (rd l0_1 a1) true a0_0 l0_1 l0_2 t182 t183 t186) else (if a4 ≥ (rd l0_1 a1) then (view_Slice.j2 kj21 a1 a2 a3 a4 (rd l0_1 a1) true a0_0 l0_1 l0_2 t182 t183 t186) else (view_Slice.j2 kj21 a1 a2 a3 a4 (rd l0_1 a1) (decide (a4 ≤ (wrap64 (-(rd l0_1 a1))))) a0_0 l0_1 l0_2 t182 t183 t186))) else (view_Slice.j3 kj21 a1 a2 a3 a0_0 l0_1 l0_2 t182 t183 t186)) = some (r1, r2, r3, r4) := H
          have A31 := Aside0.mk A310
          clear A310
          have HC32 := Aside0.mk H
          clear H
          have hnb33 := NB178_179.out
          have hnc33 := NB179_178.out
          have hcz34_0 : wc.cell? ⟨gb178, 0, none⟩ = some (.int .i64 a0_0) := (blk_cell BK178.out 0).trans rfl
          have hcz34_1 : wc.cell? ⟨gb178, 1, none⟩ = some (.slice (some ad181) l0_1.length c0_1) := (blk_cell BK178.out 1).trans rfl
          have hcz34_2 : wc.cell? ⟨gb178, 2, none⟩ = some (.slice A0_2 l0_2.length c0_2) := (blk_cell BK178.out 2).trans rfl
          have hfz34_0 := blk_frozen BK178.out 0
          have hfz34_1 := blk_frozen BK178.out 1
          have hfz34_2 := blk_frozen BK178.out 2
          go_upto_if 54 with (first | ((with_reducible refine gate_callee (f := 45) rfl ?_); refine goesL_ (some 52) rfl rfl Try.func45 (by kernel_rfl) rfl #[.agg #[.int .i64 a0_0, .slice (some ad181) l0_1.length c0_1, .slice A0_2 l0_2.length c0_2]] rfl pA ?_; (with_reducible refine (view_copied.calls a0_0 _ _ l0_1 _ _ l0_2 t182 t183 t186 _ ?side1 ?side2 ?side3 ?side4 A31.out).mono ?_); (case side1 => exact pC (Kd.C_below HR0_1.out HB.out)); (case side2 => exact HC0_1.out); (case side3 => exact pC (Kd.C_below HR0_2.out HB.out)); (case side4 => exact HC0_2.out); rintro e w35 ⟨v184, v187, rfl, ho0, ho1, hb⟩; refine ⟨_, rfl, ?_⟩; have n0_ := Aside0.mk (Kd.R_lower ho0 (below_size (pB2 HB.out GE178.out GE179.out))); have n1_ := Aside0.mk (Kd.R_lower ho1 (below_size (pB2 HB.out GE178.out GE179.out))); have n2_ := Aside0.mk (blk_below (g := gb178) (pK BK178.out) hb); have n3_ := Aside0.mk (blk_below (g := gb179) (pK BK179.out) hb); have n4_ := Aside0.mk (below_step (pB2 HB.out GE178.out GE179.out) hb); clear BK178; clear BK179; clear HB; have HO185 := n0_; have HO188 := n1_; have BK178 := n2_; have BK179 := n3_; have HB := n4_; clear n0_ n1_ n2_ n3_ n4_; (try clear hb); (try clear hb2); (try clear hk); (try clear hi); (try clear ho0); (try clear ho1)) | ((with_reducible refine gate_dst (N := 13) rfl ?_); (try (refine gate_guard (by rfl) ?_; dsimp only)); refine box_event ?hg (N := 13) ?hd (cs := #[.int .i64 0, .slice none 0 0, .slice none 0 0]) (t := 24) ?hr ?_; (case hd => rfl); (case hg => rfl); (case hr => first | (go_simp; done) | (go_simp; rfl)); intro gb189 hg w36 hbox hb; have n0_ := Aside0.mk (Kd.R_below (pR HO185.out) hb); have n1_ := Aside0.mk (Kd.R_below (pR HO188.out) hb); have n2_ := Aside0.mk (blk_below (g := gb178) (pK BK178.out) hb); have n3_ := Aside0.mk (blk_below (g := gb179) (pK BK179.out) hb); have n4_ := Aside0.mk (below_step (pB2 HB.out GE178.out GE179.out) hb); have n5_ := Aside0.mk (hbox); have n6_ := Aside0.mk ((by rw [hg]; exact (below_size (pB2 HB.out GE178.out GE179.out)) : w.heap.size ≤ gb189)); have n7_ := Aside0.mk ((by rw [hg]; exact (below_size (pB2 HB.out GE178.out GE179.out)) : w.heap.size ≤ gb189)); have n8_ := Aside0.mk ((by rw [hg]; exact Nat.ne_of_lt (blk_lt (g := gb178) (pK BK178.out)) : gb178 ≠ gb189)); have n9_ := Aside0.mk ((by rw [hg]; exact Nat.ne_of_gt (blk_lt (g := gb178) (pK BK178.out)) : gb189 ≠ gb178)); have n10_ := Aside0.mk ((by rw [hg]; exact Nat.ne_of_lt (blk_lt (g := gb179) (pK BK179.out)) : gb179 ≠ gb189)); have n11_ := Aside0.mk ((by rw [hg]; exact Nat.ne_of_gt (blk_lt (g := gb179) (pK BK179.out)) : gb189 ≠ gb179)); clear HO185; clear HO188; clear BK178; clear BK179; clear HB; have HO185 := n0_; have HO188 := n1_; have BK178 := n2_; have BK179 := n3_; have HB := n4_; have BK189 := n5_; have GW189 := n6_; have GE189 := n7_; have NB178_189 := n8_; have NB189_178 := n9_; have NB179_189 := n10_; have NB189_179 := n11_; clear n0_ n1_ n2_ n3_ n4_ n5_ n6_ n7_ n8_ n9_ n10_ n11_; clear hb hbox hg; have hnb37 := NB189_178.out; have hnc37 := NB178_189.out; have hnb38 := NB189_179.out; have hnc38 := NB179_189.out; have hcz39_0 : w36.cell? ⟨gb189, 0, none⟩ = some (.int .i64 0) := (blk_cell BK189.out 0).trans rfl; have hcz39_1 : w36.cell? ⟨gb189, 1, none⟩ = some (.slice none 0 0) := (blk_cell BK189.out 1).trans rfl; have hcz39_2 : w36.cell? ⟨gb189, 2, none⟩ = some (.slice none 0 0) := (blk_cell BK189.out 2).trans rfl; have hfz39_0 := blk_frozen BK189.out 0; have hfz39_1 := blk_frozen BK189.out 1; have hfz39_2 := blk_frozen BK189.out 2; obtain ⟨Ao40, co40, eo40⟩ := Kd.R_slice HO185.out; subst eo40; obtain ⟨Ao41, co41, eo41⟩ := Kd.R_slice HO188.out; subst eo41))
          (try simp only [Act.put, List.setIfInBounds_toArray, List.set_cons_zero, List.set_cons_succ])
          go_cut [] (fun wc => ∃ (kq : Nat) (x180000_31 : Int) (x190001_31 : List Int) (x190002_31 : List Int) (u190001 : Value) (u190002 : Value), Aside0 (view_Slice.j3 kq a1 a2 a3 a0_0 l0_1 l0_2 t182 x190001_31 x190002_31 = some (r1, r2, r3, r4)) ∧ Aside0 (kq ≤ kj21) ∧ Aside0 (Kd.R (Kd.int .i64) 3 wc w.heap.size (fun k_ => some k_ ≠ (u190002 : Value).ownBlock) u190001 x190001_31) ∧ Aside0 (Kd.R (Kd.int .i64) 3 wc w.heap.size (fun k_ => some k_ ≠ (u190001 : Value).ownBlock) u190002 x190002_31) ∧ Aside0 (wc.heap[gb178]? = some (.cells #[.int .i64 a0_0, (.slice (some ad181) l0_1.length c0_1), (.slice A0_2 l0_2.length c0_2)] 24 (0, 0))) ∧ Aside0 (wc.heap[gb179]? = some (.cells #[.int .i64 x180000_31, (.slice none 0 0), (.slice none 0 0)] 24 (0, 0))) ∧ Aside0 (wc.heap[gb189]? = some (.cells #[.int .i64 t182, u190001, u190002] 24 (0, 0))) ∧ Aside0 (Below w.heap.size w wc))
          case first =>
           have H := HC32.out
           clear HC32
           by_cases c42 : a3 > 1
           ·rw [if_pos c42] at H
            have c42b0 : decide (1 < a3) = true := decide_eq_true c42
            clear c42
            (first | rw [c42b0] | (simp only [i64_w, i32_w]; rw [c42b0]) | skip)
            have HC43 := Aside0.mk H
            clear H
            go_upto_region 10 with (fail)
            go_cut [67] (fun v67 wc => ∃ (kq : Nat) (x67_42 : Bool), v67 = .bool x67_42 ∧ Aside0 (view_Slice.j2 kq a1 a2 a3 a4 (rd l0_1 a1) x67_42 a0_0 l0_1 l0_2 t182 t183 t186 = some (r1, r2, r3, r4)) ∧ Aside0 (kq ≤ kj21) ∧ Aside0 (Kd.R (Kd.int .i64) 3 wc w.heap.size (fun k_ => some k_ ≠ ((.slice Ao41 t186.length co41) : Value).ownBlock) (.slice Ao40 t183.length co40) t183) ∧ Aside0 (Kd.R (Kd.int .i64) 3 wc w.heap.size (fun k_ => some k_ ≠ ((.slice Ao40 t183.length co40) : Value).ownBlock) (.slice Ao41 t186.length co41) t186) ∧ Aside0 (wc.heap[gb178]? = some (.cells #[.int .i64 a0_0, (.slice (some ad181) l0_1.length c0_1), (.slice A0_2 l0_2.length c0_2)] 24 (0, 0))) ∧ Aside0 (wc.heap[gb179]? = some (.cells #[.int .i64 0, (.slice none 0 0), (.slice none 0 0)] 24 (0, 0))) ∧ Aside0 (wc.heap[gb189]? = some (.cells #[.int .i64 t182, (.slice Ao40 t183.length co40), (.slice Ao41 t186.length co41)] 24 (0, 0))) ∧ Aside0 (Below w.heap.size w wc))
            case first =>
             have H := HC43.out
             clear HC43
             by_cases c44 : a4 = 0
             ·rw [if_pos c44] at H
              have c44b0 : (a4 == 0) = true := beq_iff_eq.mpr c44
              have c44b1 : (a4 != 0) = false := bne_eq_false_iff_eq.mpr c44
              clear c44
              (first | rw [c44b0] | (simp only [i64_w, i32_w]; rw [c44b0]) | skip)
              have H' := Aside0.mk H
              clear H
              go_wp2
              go_meet
              case rel => exact ⟨_, (true), (pF), H', ⟨by have := HJ7.out; have := HJ21.out; first | omega | exact Nat.le_refl _⟩, ⟨by (with_reducible repeat (first | apply Kd.R_alloc | apply Kd.R_drewN | apply Kd.R_drew)); exact Kd.R_mono (Kd.R_far (p := ⟨gb189, 2, none⟩) (Kd.R_far (p := ⟨gb189, 1, none⟩) (Kd.R_far (p := ⟨gb189, 0, none⟩) (Kd.R_types HO185.out BK189.out (by decide)) (fun _ hk => hk.2) (.int .i64 t182)) (fun _ hk => hk.2) (.slice Ao40 t183.length co40)) (fun _ hk => hk.2) (.slice Ao41 t186.length co41)) (fun _ hk => hk.1)⟩, ⟨by (with_reducible repeat (first | apply Kd.R_alloc | apply Kd.R_drewN | apply Kd.R_drew)); exact Kd.R_mono (Kd.R_far (p := ⟨gb189, 2, none⟩) (Kd.R_far (p := ⟨gb189, 1, none⟩) (Kd.R_far (p := ⟨gb189, 0, none⟩) (Kd.R_types HO188.out BK189.out (by decide)) (fun _ hk => hk.2) (.int .i64 t182)) (fun _ hk => hk.2) (.slice Ao40 t183.length co40)) (fun _ hk => hk.2) (.slice Ao41 t186.length co41)) (fun _ hk => hk.1)⟩, ⟨by (with_reducible repeat (first | apply bN | apply bD | apply bA)); refine blk_far ?_ NB178_189.out _; (with_reducible repeat (first | apply bN | apply bD | apply bA)); refine blk_far ?_ NB178_189.out _; (with_reducible repeat (first | apply bN | apply bD | apply bA)); refine blk_far ?_ NB178_189.out _; (with_reducible repeat (first | apply bN | apply bD | apply bA)); exact BK178.out⟩, ⟨by (with_reducible repeat (first | apply bN | apply bD | apply bA)); refine blk_far ?_ NB179_189.out _; (with_reducible repeat (first | apply bN | apply bD | apply bA)); refine blk_far ?_ NB179_189.out _; (with_reducible repeat (first | apply bN | apply bD | apply bA)); refine blk_far ?_ NB179_189.out _; (with_reducible repeat (first | apply bN | apply bD | apply bA)); exact BK179.out⟩, ⟨by (with_reducible repeat (first | apply bN | apply bD | apply bA)); refine blk_put (cs := #[.int .i64 t182, .slice Ao40 t183.length co40, .slice none 0 0]) ?_ 2 _ rfl; (with_reducible repeat (first | apply bN | apply bD | apply bA)); refine blk_put (cs := #[.int .i64 t182, .slice none 0 0, .slice none 0 0]) ?_ 1 _ rfl; (with_reducible repeat (first | apply bN | apply bD | apply bA)); refine blk_put (cs := #[.int .i64 0, .slice none 0 0, .slice none 0 0]) ?_ 0 _ rfl; (with_reducible repeat (first | apply bN | apply bD | apply bA)); exact BK189.out⟩, ⟨pB3 HB.out GE178.out GE179.out GE189.out⟩⟩
             ·rw [if_neg c44] at H
              have c44b0 : (a4 == 0) = false := beq_eq_false_iff_ne.mpr c44
              have c44b1 : (a4 != 0) = true := bne_iff_ne.mpr c44
              (first | rw [c44b0] | (simp only [i64_w, i32_w]; rw [c44b0]) | skip)
              by_cases c45 : a4 ≥ (rd l0_1 a1)
              ·rw [if_pos c45] at H
               have c45b0 : decide ((rd l0_1 a1) ≤ a4) = true := decide_eq_true c45
               clear c45
               have H' := Aside0.mk H
               clear H
               go_wp2
               go_meet
               case rel => exact ⟨_, (true), (pF), H', ⟨by have := HJ7.out; have := HJ21.out; first | omega | exact Nat.le_refl _⟩, ⟨by (with_reducible repeat (first | apply Kd.R_alloc | apply Kd.R_drewN | apply Kd.R_drew)); exact Kd.R_mono (Kd.R_far (p := ⟨gb189, 2, none⟩) (Kd.R_far (p := ⟨gb189, 1, none⟩) (Kd.R_far (p := ⟨gb189, 0, none⟩) (Kd.R_types HO185.out BK189.out (by decide)) (fun _ hk => hk.2) (.int .i64 t182)) (fun _ hk => hk.2) (.slice Ao40 t183.length co40)) (fun _ hk => hk.2) (.slice Ao41 t186.length co41)) (fun _ hk => hk.1)⟩, ⟨by (with_reducible repeat (first | apply Kd.R_alloc | apply Kd.R_drewN | apply Kd.R_drew)); exact Kd.R_mono (Kd.R_far (p := ⟨gb189, 2, none⟩) (Kd.R_far (p := ⟨gb189, 1, none⟩) (Kd.R_far (p := ⟨gb189, 0, none⟩) (Kd.R_types HO188.out BK189.out (by decide)) (fun _ hk => hk.2) (.int .i64 t182)) (fun _ hk => hk.2) (.slice Ao40 t183.length co40)) (fun _ hk => hk.2) (.slice Ao41 t186.length co41)) (fun _ hk => hk.1)⟩, ⟨by (with_reducible repeat (first | apply bN | apply bD | apply bA)); refine blk_far ?_ NB178_189.out _; (with_reducible repeat (first | apply bN | apply bD | apply bA)); refine blk_far ?_ NB178_189.out _; (with_reducible repeat (first | apply bN | apply bD | apply bA)); refine blk_far ?_ NB178_189.out _; (with_reducible repeat (first | apply bN | apply bD | apply bA)); exact BK178.out⟩, ⟨by (with_reducible repeat (first | apply bN | apply bD | apply bA)); refine blk_far ?_ NB179_189.out _; (with_reducible repeat (first | apply bN | apply bD | apply bA)); refine blk_far ?_ NB179_189.out _; (with_reducible repeat (first | apply bN | apply bD | apply bA)); refine blk_far ?_ NB179_189.out _; (with_reducible repeat (first | apply bN | apply bD | apply bA)); exact BK179.out⟩, ⟨by (with_reducible repeat (first | apply bN | apply bD | apply bA)); refine blk_put (cs := #[.int .i64 t182, .slice Ao40 t183.length co40, .slice none 0 0]) ?_ 2 _ rfl; (with_reducible repeat (first | apply bN | apply bD | apply bA)); refine blk_put (cs := #[.int .i64 t182, .slice none 0 0, .slice none 0 0]) ?_ 1 _ rfl; (with_reducible repeat (first | apply bN | apply bD | apply bA)); refine blk_put (cs := #[.int .i64 0, .slice none 0 0, .slice none 0 0]) ?_ 0 _ rfl; (with_reducible repeat (first | apply bN | apply bD | apply bA)); exact BK189.out⟩, ⟨pB3 HB.out GE178.out GE179.out GE189.out⟩⟩
              ·rw [if_neg c45] at H
               have c45b0 : decide ((rd l0_1 a1) ≤ a4) = false := decide_eq_false c45
               clear c45
               have H' := Aside0.mk H
               clear H
               go_wp2
               go_meet
               case rel => exact ⟨_, (decide (a4 ≤ (wrap64 (-(rd l0_1 a1))))), (pF), H', ⟨by have := HJ7.out; have := HJ21.out; first | omega | exact Nat.le_refl _⟩, ⟨by (with_reducible repeat (first | apply Kd.R_alloc | apply Kd.R_drewN | apply Kd.R_drew)); exact Kd.R_mono (Kd.R_far (p := ⟨gb189, 2, none⟩) (Kd.R_far (p := ⟨gb189, 1, none⟩) (Kd.R_far (p := ⟨gb189, 0, none⟩) (Kd.R_types HO185.out BK189.out (by decide)) (fun _ hk => hk.2) (.int .i64 t182)) (fun _ hk => hk.2) (.slice Ao40 t183.length co40)) (fun _ hk => hk.2) (.slice Ao41 t186.length co41)) (fun _ hk => hk.1)⟩, ⟨by (with_reducible repeat (first | apply Kd.R_alloc | apply Kd.R_drewN | apply Kd.R_drew)); exact Kd.R_mono (Kd.R_far (p := ⟨gb189, 2, none⟩) (Kd.R_far (p := ⟨gb189, 1, none⟩) (Kd.R_far (p := ⟨gb189, 0, none⟩) (Kd.R_types HO188.out BK189.out (by decide)) (fun _ hk => hk.2) (.int .i64 t182)) (fun _ hk => hk.2) (.slice Ao40 t183.length co40)) (fun _ hk => hk.2) (.slice Ao41 t186.length co41)) (fun _ hk => hk.1)⟩, ⟨by (with_reducible repeat (first | apply bN | apply bD | apply bA)); refine blk_far ?_ NB178_189.out _; (with_reducible repeat (first | apply bN | apply bD | apply bA)); refine blk_far ?_ NB178_189.out _; (with_reducible repeat (first | apply bN | apply bD | apply bA)); refine blk_far ?_ NB178_189.out _; (with_reducible repeat (first | apply bN | apply bD | apply bA)); exact BK178.out⟩, ⟨by (with_reducible repeat (first | apply bN | apply bD | apply bA)); refine blk_far ?_ NB179_189.out _; (with_reducible repeat (first | apply bN | apply bD | apply bA)); refine blk_far ?_ NB179_189.out _; (with_reducible repeat (first | apply bN | apply bD | apply bA)); refine blk_far ?_ NB179_189.out _; (with_reducible repeat (first | apply bN | apply bD | apply bA)); exact BK179.out⟩, ⟨by (with_reducible repeat (first | apply bN | apply bD | apply bA)); refine blk_put (cs := #[.int .i64 t182, .slice Ao40 t183.length co40, .slice none 0 0]) ?_ 2 _ rfl; (with_reducible repeat (first | apply bN | apply bD | apply bA)); refine blk_put (cs := #[.int .i64 t182, .slice none 0 0, .slice none 0 0]) ?_ 1 _ rfl; (with_reducible repeat (first | apply bN | apply bD | apply bA)); refine blk_put (cs := #[.int .i64 0, .slice none 0 0, .slice none 0 0]) ?_ 0 _ rfl; (with_reducible repeat (first | apply bN | apply bD | apply bA)); exact BK189.out⟩, ⟨pB3 HB.out GE178.out GE179.out GE189.out⟩⟩
            case rest =>
             clear HC43
             try clear c1
             try clear p1
             try clear q1
             try clear hx1
             try clear c2
             try clear p2
             try clear c3
             try clear c4
             try clear p6
             try clear c7
             try clear c11
             try clear c14
             try clear c14b0
             try clear c15
             try clear c17
             try clear c18
             try clear p18
             try clear q18
             try clear hx18
             try clear c20
             try clear c20b0
             try clear c21
             try clear c21b0
             try clear c23
             try clear c25
             try clear c25b0
             try clear c26
             try clear c26b0
             try clear c27
             try clear c27b0
             try clear c28
             try clear c29
             try clear c33
             try clear c37
             try clear c38
             try clear c39
             try clear c42
             try clear c42b0
             try clear c44
             try clear c44b0
             try clear c44b1
             try clear c45
             try clear c45b0
             try clear hcz12_0
             try clear hcz12_1
             try clear hcz12_2
             try clear hcz16_0
             try clear hcz16_1
             try clear hcz16_2
             try clear hcz19_0
             try clear hcz19_1
             try clear hcz19_2
             try clear hcz24_0
             try clear hcz24_1
             try clear hcz24_2
             try clear hcz30_0
             try clear hcz30_1
             try clear hcz30_2
             try clear hcz34_0
             try clear hcz34_1
             try clear hcz34_2
             try clear hcz39_0
             try clear hcz39_1
             try clear hcz39_2
             try clear hfz12_0
             try clear hfz12_1
             try clear hfz12_2
             try clear hfz16_0
             try clear hfz16_1
             try clear hfz16_2
             try clear hfz19_0
             try clear hfz19_1
             try clear hfz19_2
             try clear hfz24_0
             try clear hfz24_1
             try clear hfz24_2
             try clear hfz30_0
             try clear hfz30_1
             try clear hfz30_2
             try clear hfz34_0
             try clear hfz34_1
             try clear hfz34_2
             try clear hfz39_0
             try clear hfz39_1
             try clear hfz39_2
             try clear hx181_0
             try clear p1
             try clear p18
             try clear p181
             try clear p2
             try clear q1
             try clear q18
             try clear q181
             obtain ⟨kq, x67_42, rfl, HA, HJ42, HO_190001, HO_190002, BK178, BK179, BK189, HB⟩ := hcut
             cases kq with
             | zero => exact absurd HA.out (by simp [view_Slice.j2])
             | succ kj42 =>
              have H := HA.out
              clear HA
              simp only [view_Slice.j2] at H
              by_cases c46 : x67_42 = true
              ·subst c46
               have H1 : (some (0, ([] : List Int), ([] : List Int), 11)) = some (r1, r2, r3, r4) := by rw [if_pos rfl] at H; exact H
               clear H
               have H := H1
               clear H1
               simp only [Option.some.injEq, Prod.mk.injEq] at H
               obtain ⟨rfl, rfl, rfl, rfl⟩ := H
               have hnb47 := NB179_178.out
               have hnc47 := NB178_179.out
               have hnb48 := NB179_189.out
               have hnc48 := NB189_179.out
               have hcz49_0 : wc.cell? ⟨gb179, 0, none⟩ = some (.int .i64 0) := (blk_cell BK179.out 0).trans rfl
               have hcz49_1 : wc.cell? ⟨gb179, 1, none⟩ = some (.slice none 0 0) := (blk_cell BK179.out 1).trans rfl
               have hcz49_2 : wc.cell? ⟨gb179, 2, none⟩ = some (.slice none 0 0) := (blk_cell BK179.out 2).trans rfl
               have hfz49_0 := blk_frozen BK179.out 0
               have hfz49_1 := blk_frozen BK179.out 1
               have hfz49_2 := blk_frozen BK179.out 2
               go_wp2
               refine bodyPost_ret (results_ct rfl _ _ gb179 24 #[.int .i64 0, .slice none 0 0, .slice none 0 0] (0, 0) _ rfl (by (with_reducible repeat (first | apply bN | apply bD | apply bA)); refine blk_put (cs := #[.int .i64 0, .slice none 0 0, .slice none 0 0]) ?_ 2 _ rfl; (with_reducible repeat (first | apply bN | apply bD | apply bA)); refine blk_put (cs := #[.int .i64 0, .slice none 0 0, .slice none 0 0]) ?_ 1 _ rfl; (with_reducible repeat (first | apply bN | apply bD | apply bA)); refine blk_put (cs := #[.int .i64 0, .slice none 0 0, .slice none 0 0]) ?_ 0 _ rfl; (with_reducible repeat (first | apply bN | apply bD | apply bA)); exact BK179.out) Try.underlying24 rfl (by kernel_rfl)) rfl ?_
               exact ⟨_, _, pE, by first | exact Kd.R_nil _ _ _ _ _ | exact Kd.N_nil _ _ _ _ _ | exact Kd.V_nil _ _ _ _ _ | exact Kd.Q_nil _ _ _ _ _ | exact Kd.S_nil _ _ _ _ _, by first | exact Kd.R_nil _ _ _ _ _ | exact Kd.N_nil _ _ _ _ _ | exact Kd.V_nil _ _ _ _ _ | exact Kd.Q_nil _ _ _ _ _ | exact Kd.S_nil _ _ _ _ _, pB3 HB.out GE178.out GE179.out GE189.out⟩
              ·replace c46 := Bool.eq_false_iff.mpr c46
               subst c46
               have H1 : (if (wrap64 (a2 + (wrap64 ((wrap64 (a3 - 1)) * a4)))) < 0 then (some (0, ([] : List Int), ([] : List Int), 11)) else (if (wrap64 (a2 + (wrap64 ((wrap64 (a3 - 1)) * a4)))) ≥ (rd l0_1 a1) then (some (0, ([] : List Int), ([] : List Int), 11)) else (if 0 ≤ a1 then (if a1 < (l0_2.length : Int) then (if a1 < (t186.length : Int) then (view_Slice.j3 kj42 a1 a2 a3 a0_0 l0_1 l0_2 t182 t183 (t186.set (a1 : Int).toNat (wrap64 ((rd l0_2 a1) * a4)))) else (none)) else (none)) else (none)))) = some (r1, r2, r3, r4) := by rw [if_neg (show ¬ (false = true) by decide)] at H; exact H
               clear H
               have H := H1
               clear H1
               by_cases c50 : (wrap64 (a2 + (wrap64 ((wrap64 (a3 - 1)) * a4)))) < 0
               ·rw [if_pos c50] at H
                have c50b0 : decide ((wrap64 (a2 + (wrap64 ((wrap64 (a3 - 1)) * a4)))) < 0) = true := decide_eq_true c50
                clear c50
                simp only [Option.some.injEq, Prod.mk.injEq] at H
                obtain ⟨rfl, rfl, rfl, rfl⟩ := H
                have hnb51 := NB179_178.out
                have hnc51 := NB178_179.out
                have hnb52 := NB179_189.out
                have hnc52 := NB189_179.out
                have hcz53_0 : wc.cell? ⟨gb179, 0, none⟩ = some (.int .i64 0) := (blk_cell BK179.out 0).trans rfl
                have hcz53_1 : wc.cell? ⟨gb179, 1, none⟩ = some (.slice none 0 0) := (blk_cell BK179.out 1).trans rfl
                have hcz53_2 : wc.cell? ⟨gb179, 2, none⟩ = some (.slice none 0 0) := (blk_cell BK179.out 2).trans rfl
                have hfz53_0 := blk_frozen BK179.out 0
                have hfz53_1 := blk_frozen BK179.out 1
                have hfz53_2 := blk_frozen BK179.out 2
                go_wp2
                refine bodyPost_ret (results_ct rfl _ _ gb179 24 #[.int .i64 0, .slice none 0 0, .slice none 0 0] (0, 0) _ rfl (by (with_reducible repeat (first | apply bN | apply bD | apply bA)); refine blk_put (cs := #[.int .i64 0, .slice none 0 0, .slice none 0 0]) ?_ 2 _ rfl; (with_reducible repeat (first | apply bN | apply bD | apply bA)); refine blk_put (cs := #[.int .i64 0, .slice none 0 0, .slice none 0 0]) ?_ 1 _ rfl; (with_reducible repeat (first | apply bN | apply bD | apply bA)); refine blk_put (cs := #[.int .i64 0, .slice none 0 0, .slice none 0 0]) ?_ 0 _ rfl; (with_reducible repeat (first | apply bN | apply bD | apply bA)); exact BK179.out) Try.underlying24 rfl (by kernel_rfl)) rfl ?_
                exact ⟨_, _, pE, by first | exact Kd.R_nil _ _ _ _ _ | exact Kd.N_nil _ _ _ _ _ | exact Kd.V_nil _ _ _ _ _ | exact Kd.Q_nil _ _ _ _ _ | exact Kd.S_nil _ _ _ _ _, by first | exact Kd.R_nil _ _ _ _ _ | exact Kd.N_nil _ _ _ _ _ | exact Kd.V_nil _ _ _ _ _ | exact Kd.Q_nil _ _ _ _ _ | exact Kd.S_nil _ _ _ _ _, pB3 HB.out GE178.out GE179.out GE189.out⟩
               ·rw [if_neg c50] at H
                have c50b0 : decide ((wrap64 (a2 + (wrap64 ((wrap64 (a3 - 1)) * a4)))) < 0) = false := decide_eq_false c50
                clear c50
                by_cases c54 : (wrap64 (a2 + (wrap64 ((wrap64 (a3 - 1)) * a4)))) ≥ (rd l0_1 a1)
                ·rw [if_pos c54] at H
                 have c54b0 : decide ((rd l0_1 a1) ≤ (wrap64 (a2 + (wrap64 ((wrap64 (a3 - 1)) * a4))))) = true := decide_eq_true c54
                 clear c54
                 simp only [Option.some.injEq, Prod.mk.injEq] at H
                 obtain ⟨rfl, rfl, rfl, rfl⟩ := H
                 have hnb55 := NB179_178.out
                 have hnc55 := NB178_179.out
                 have hnb56 := NB179_189.out
                 have hnc56 := NB189_179.out
                 have hcz57_0 : wc.cell? ⟨gb179, 0, none⟩ = some (.int .i64 0) := (blk_cell BK179.out 0).trans rfl
                 have hcz57_1 : wc.cell? ⟨gb179, 1, none⟩ = some (.slice none 0 0) := (blk_cell BK179.out 1).trans rfl
                 have hcz57_2 : wc.cell? ⟨gb179, 2, none⟩ = some (.slice none 0 0) := (blk_cell BK179.out 2).trans rfl
                 have hfz57_0 := blk_frozen BK179.out 0
                 have hfz57_1 := blk_frozen BK179.out 1
                 have hfz57_2 := blk_frozen BK179.out 2
                 go_wp2
                 refine bodyPost_ret (results_ct rfl _ _ gb179 24 #[.int .i64 0, .slice none 0 0, .slice none 0 0] (0, 0) _ rfl (by (with_reducible repeat (first | apply bN | apply bD | apply bA)); refine blk_put (cs := #[.int .i64 0, .slice none 0 0, .slice none 0 0]) ?_ 2 _ rfl; (with_reducible repeat (first | apply bN | apply bD | apply bA)); refine blk_put (cs := #[.int .i64 0, .slice none 0 0, .slice none 0 0]) ?_ 1 _ rfl; (with_reducible repeat (first | apply bN | apply bD | apply bA)); refine blk_put (cs := #[.int .i64 0, .slice none 0 0, .slice none 0 0]) ?_ 0 _ rfl; (with_reducible repeat (first | apply bN | apply bD | apply bA)); exact BK179.out) Try.underlying24 rfl (by kernel_rfl)) rfl ?_
                 exact ⟨_, _, pE, by first | exact Kd.R_nil _ _ _ _ _ | exact Kd.N_nil _ _ _ _ _ | exact Kd.V_nil _ _ _ _ _ | exact Kd.Q_nil _ _ _ _ _ | exact Kd.S_nil _ _ _ _ _, by first | exact Kd.R_nil _ _ _ _ _ | exact Kd.N_nil _ _ _ _ _ | exact Kd.V_nil _ _ _ _ _ | exact Kd.Q_nil _ _ _ _ _ | exact Kd.S_nil _ _ _ _ _, pB3 HB.out GE178.out GE179.out GE189.out⟩
                ·rw [if_neg c54] at H
                 have c54b0 : decide ((rd l0_1 a1) ≤ (wrap64 (a2 + (wrap64 ((wrap64 (a3 - 1)) * a4))))) = false := decide_eq_false c54
                 clear c54
                 by_cases c58 : 0 ≤ a1
                 ·rw [if_pos c58] at H
                  have c58b0 : decide (0 ≤ a1) = true := decide_eq_true c58
                  clear c58
                  by_cases c59 : a1 < (l0_2.length : Int)
                  ·rw [if_pos c59] at H
                   have c59b0 : decide (a1 < (l0_2.length : Int)) = true := decide_eq_true c59
                   clear c59
                   by_cases c60 : a1 < (t186.length : Int)
                   ·rw [if_pos c60] at H
                    have c60b0 : decide (a1 < (t186.length : Int)) = true := decide_eq_true c60
                    clear c60
                    obtain ⟨y191, hy191⟩ : ∃ y_ : List Int, y_ = (t186.set (a1 : Int).toNat (wrap64 ((rd l0_2 a1) * a4))) := ⟨_, rfl⟩
                    replace H : (view_Slice.j3 kj42 a1 a2 a3 a0_0 l0_1 l0_2 t182 t183 y191) = some (r1, r2, r3, r4) := by first | (rw [hy191]; with_reducible exact H) | (have H2_ := (Option.bind_some _ _).symm.trans H; rw [hy191]; with_reducible exact H2_) | (have H2_ := (Option.bind_some _ _).symm.trans H; with_reducible exact H2_) | with_reducible exact H | (rw [hy191]; exact H) | exact H
                    have Ny191 := Aside0.mk hy191
                    clear hy191
                    have H' := Aside0.mk H
                    clear H
                    try go_wp2
                    have n0_ := Aside0.mk (Kd.R_drew HO_190001.out)
                    have n1_ := Aside0.mk (Kd.R_drew HO_190002.out)
                    have n2_ := Aside0.mk (blk_drew BK178.out)
                    have n3_ := Aside0.mk (blk_drew BK179.out)
                    have n4_ := Aside0.mk (blk_drew BK189.out)
                    have n5_ := Aside0.mk (below_drew1 HB.out)
                    clear HO_190001
                    clear HO_190002
                    clear BK178
                    clear BK179
                    clear BK189
                    clear HB
                    have HO_190001 := n0_
                    have HO_190002 := n1_
                    have BK178 := n2_
                    have BK179 := n3_
                    have BK189 := n4_
                    have HB := n5_
                    clear n0_ n1_ n2_ n3_ n4_ n5_
                    have p190 : 0 ≤ (a1 : Int) := of_decide_eq_true pD
                    have q190 : a1 < (l0_2.length : Int) := of_decide_eq_true pD
                    obtain ⟨ad190, e190, hx190_0⟩ := Kd.at_int HR0_2.out a1 p190 q190
                    have hw190_0 := hx190_0
                    cases e190
                    replace hx190_0 := (HB.out.cell (World.block_lt_of_cell? w _ hx190_0)).trans hx190_0
                    replace p190 := eq_true p190
                    replace q190 := eq_true q190
                    have p61 : 0 ≤ (a1 : Int) := of_decide_eq_true pD
                    have q61 : (a1 : Int) < ((t186.length : Int) : Int) := of_decide_eq_true pD
                    obtain ⟨go61, co61, eo61, gb61, gl61, cl61, HG61⟩ := Kd.R_form HO_190002.out (by omega)
                    (first | cases eo61 | (injection eo61 with ea_ en_ ec_; (first | subst ea_ | (injection ea_ with ea_; subst ea_)); subst ec_; clear en_))
                    have GB61 := Aside0.mk gb61
                    have GG61 := Aside0.mk HG61
                    clear gb61 gl61 HG61
                    obtain ⟨hx61_0, hf61_0⟩ := Kd.R_celln 0 HO_190002.out (a1 : Int) p61 q61
                    replace p61 := eq_true p61
                    replace q61 := eq_true q61
                    have HP63 := Kd.R_putn HO_190002.out (a1 : Int) (wrap64 ((rd l0_2 a1) * a4))
                    rw [← Ny191.out] at HP63
                    have HQ63 := Aside0.mk HP63
                    clear HP63
                    refine start_ (n := 12) (S := fun w' => w'.cell? ⟨gb189, 0, none⟩ = some (.int .i64 t182) ∧ w'.cell? ⟨gb189, 1, none⟩ = some (.slice Ao40 t183.length co40) ∧ w'.cell? ⟨gb189, 2, none⟩ = some (.slice (some ⟨go61, 0, none⟩) t186.length co41) ∧ w'.cell? ⟨gb178, 0, none⟩ = some (.int .i64 a0_0) ∧ w'.cell? ⟨gb178, 1, none⟩ = some (.slice (some ad181) l0_1.length c0_1) ∧ w'.cell? ⟨gb178, 2, none⟩ = some (.slice (some ad190) l0_2.length c0_2) ∧ w'.cell? (ad190.add (a1).toNat) = some (.int .i64 (rd l0_2 a1))) (ds := [11]) #[false, false, false, false, false, false, false, false, false, false, false, false] (by kernel_rfl) rfl rfl ⟨(blk_cell BK189.out 0).trans rfl, (blk_cell BK189.out 1).trans rfl, (blk_cell BK189.out 2).trans rfl, (blk_cell BK178.out 0).trans rfl, (blk_cell BK178.out 1).trans rfl, (blk_cell BK178.out 2).trans rfl, ((HB.out.cell (World.block_lt_of_cell? w _ hw190_0)).trans hw190_0)⟩ (fun hHeld => ?_); refine with_tabW view_Slice.tab15 view_Slice.bits15 (fun HT_ HW_ => ?_)
                    generalize wc.drew = w62 at HO_190001 HO_190002 BK178 BK179 BK189 HB GG61 HQ63 hf61_0 hx190_0 hx61_0 hHeld ⊢
                    refine pP (i := 0) (N := some 83) #[true, false, false, false, false, false, false, false, false, false, false, false] rfl rfl HT_.out ?_
                    refine pP (i := 2) (N := some 85) #[true, false, true, false, false, false, false, false, false, false, false, false] rfl rfl HT_.out ?_
                    refine pP (i := 3) (N := some 86) #[true, false, true, true, false, false, false, false, false, false, false, false] rfl rfl HT_.out ?_
                    refine pP (i := 5) (N := some 88) #[true, false, true, true, false, true, false, false, false, false, false, false] rfl rfl HT_.out ?_
                    refine pP (i := 8) (N := some 91) #[true, false, true, true, false, true, false, false, true, false, false, false] rfl rfl HT_.out ?_
                    refine pT (i := 1) (N := some 84) #[true, true, true, true, false, true, false, false, true, false, false, false] rfl rfl HT_.out HW_.out hHeld (by rintro w' ⟨s0, s1, s2, s3, s4, s5, s6⟩; go_simp; with_reducible rfl) ?_
                    refine pT (i := 4) (N := some 87) #[true, true, true, true, true, true, false, false, true, false, false, false] rfl rfl HT_.out HW_.out hHeld (by rintro w' ⟨s0, s1, s2, s3, s4, s5, s6⟩; go_simp; with_reducible rfl) ?_
                    refine pP (i := 6) (N := some 89) #[true, true, true, true, true, true, true, false, true, false, false, false] rfl rfl HT_.out ?_
                    refine pT (i := 7) (N := some 90) #[true, true, true, true, true, true, true, true, true, false, false, false] rfl rfl HT_.out HW_.out hHeld (by rintro w' ⟨s0, s1, s2, s3, s4, s5, s6⟩; go_simp; with_reducible rfl) ?_
                    refine pP (i := 9) (N := some 92) #[true, true, true, true, true, true, true, true, true, true, false, false] rfl rfl HT_.out ?_
                    refine pP (i := 10) (N := some 93) #[true, true, true, true, true, true, true, true, true, true, true, false] rfl rfl HT_.out ?_
                    refine last_ (i := 11) (N := none) #[true, true, true, true, true, true, true, true, true, true, true, true] rfl rfl (one_of HT_.out (by kernel_rfl)) (by decide) (fun K hK => ?_)
                    refine skip_ (w1 := ?_) (by rfl) rfl ?_ ?_
                    rotate_left
                    ·go_simp
                     rfl
                    refine hK.out _ _ ?_
                    clear hK K
                    refine done_ (done_of HT_.out (by kernel_rfl)) ?_
                    try go_wp2
                    go_meet
                    case rel => exact ⟨_, (0), (t183), (y191), (.slice Ao40 t183.length co40), (.slice (some ⟨go61, 0, none⟩) t186.length co41), H', ⟨by have := HJ7.out; have := HJ21.out; have := HJ42.out; first | omega | exact Nat.le_refl _⟩, ⟨by (with_reducible repeat (first | apply Kd.R_alloc | apply Kd.R_drewN | apply Kd.R_drew)); exact Kd.R_mono (Kd.R_far (p := ⟨go61, (a1 : Int).toNat, none⟩) (Kd.R_mono HO_190001.out (fun k_ hk => (⟨hk, fun e_ => hk (by rw [e_]; rfl)⟩ : _ ∧ k_ ≠ go61))) (fun _ hk => hk.2) (.int .i64 (wrap64 ((rd l0_2 a1) * a4)))) (fun _ hk => hk.1)⟩, ⟨pR HQ63.out⟩, ⟨by (with_reducible repeat (first | apply bN | apply bD | apply bA)); refine blk_far ?_ (by have h_ := Kd.R_ne HO_190002.out BK178.out (by decide); intro e_; exact h_ (by rw [e_]; rfl)) _; (with_reducible repeat (first | apply bN | apply bD | apply bA)); exact BK178.out⟩, ⟨by (with_reducible repeat (first | apply bN | apply bD | apply bA)); refine blk_far ?_ (by have h_ := Kd.R_ne HO_190002.out BK179.out (by decide); intro e_; exact h_ (by rw [e_]; rfl)) _; (with_reducible repeat (first | apply bN | apply bD | apply bA)); exact BK179.out⟩, ⟨by (with_reducible repeat (first | apply bN | apply bD | apply bA)); refine blk_far ?_ (by have h_ := Kd.R_ne HO_190002.out BK189.out (by decide); intro e_; exact h_ (by rw [e_]; rfl)) _; (with_reducible repeat (first | apply bN | apply bD | apply bA)); exact BK189.out⟩, ⟨pB4 HB.out GB61.out GE178.out GE179.out GE189.out⟩⟩
                   ·rw [if_neg c60] at H
                    exact absurd H (by simp)
                  ·rw [if_neg c59] at H
                   exact absurd H (by simp)
                 ·rw [if_neg c58] at H
                  exact absurd H (by simp)
           ·rw [if_neg c42] at H
            have c42b0 : decide (1 < a3) = false := decide_eq_false c42
            clear c42
            (first | rw [c42b0] | (simp only [i64_w, i32_w]; rw [c42b0]) | skip)
            have H' := Aside0.mk H
            clear H
            go_wp2
            go_meet
            case rel => exact ⟨_, (0), (t183), (t186), (.slice Ao40 t183.length co40), (.slice Ao41 t186.length co41), H', ⟨by have := HJ7.out; have := HJ21.out; first | omega | exact Nat.le_refl _⟩, ⟨by (with_reducible repeat (first | apply Kd.R_alloc | apply Kd.R_drewN | apply Kd.R_drew)); exact Kd.R_mono (Kd.R_far (p := ⟨gb189, 2, none⟩) (Kd.R_far (p := ⟨gb189, 1, none⟩) (Kd.R_far (p := ⟨gb189, 0, none⟩) (Kd.R_types HO185.out BK189.out (by decide)) (fun _ hk => hk.2) (.int .i64 t182)) (fun _ hk => hk.2) (.slice Ao40 t183.length co40)) (fun _ hk => hk.2) (.slice Ao41 t186.length co41)) (fun _ hk => hk.1)⟩, ⟨by (with_reducible repeat (first | apply Kd.R_alloc | apply Kd.R_drewN | apply Kd.R_drew)); exact Kd.R_mono (Kd.R_far (p := ⟨gb189, 2, none⟩) (Kd.R_far (p := ⟨gb189, 1, none⟩) (Kd.R_far (p := ⟨gb189, 0, none⟩) (Kd.R_types HO188.out BK189.out (by decide)) (fun _ hk => hk.2) (.int .i64 t182)) (fun _ hk => hk.2) (.slice Ao40 t183.length co40)) (fun _ hk => hk.2) (.slice Ao41 t186.length co41)) (fun _ hk => hk.1)⟩, ⟨by (with_reducible repeat (first | apply bN | apply bD | apply bA)); refine blk_far ?_ NB178_189.out _; (with_reducible repeat (first | apply bN | apply bD | apply bA)); refine blk_far ?_ NB178_189.out _; (with_reducible repeat (first | apply bN | apply bD | apply bA)); refine blk_far ?_ NB178_189.out _; (with_reducible repeat (first | apply bN | apply bD | apply bA)); exact BK178.out⟩, ⟨by (with_reducible repeat (first | apply bN | apply bD | apply bA)); refine blk_far ?_ NB179_189.out _; (with_reducible repeat (first | apply bN | apply bD | apply bA)); refine blk_far ?_ NB179_189.out _; (with_reducible repeat (first | apply bN | apply bD | apply bA)); refine blk_far ?_ NB179_189.out _; (with_reducible repeat (first | apply bN | apply bD | apply bA)); exact BK179.out⟩, ⟨by (with_reducible repeat (first | apply bN | apply bD | apply bA)); refine blk_put (cs := #[.int .i64 t182, .slice Ao40 t183.length co40, .slice none 0 0]) ?_ 2 _ rfl; (with_reducible repeat (first | apply bN | apply bD | apply bA)); refine blk_put (cs := #[.int .i64 t182, .slice none 0 0, .slice none 0 0]) ?_ 1 _ rfl; (with_reducible repeat (first | apply bN | apply bD | apply bA)); refine blk_put (cs := #[.int .i64 0, .slice none 0 0, .slice none 0 0]) ?_ 0 _ rfl; (with_reducible repeat (first | apply bN | apply bD | apply bA)); exact BK189.out⟩, ⟨pB3 HB.out GE178.out GE179.out GE189.out⟩⟩
          case rest =>
           clear HC32
           try clear c1
           try clear p1
           try clear q1
           try clear hx1
           try clear c2
           try clear p2
           try clear c3
           try clear c4
           try clear c5
           try clear c6
           try clear p6
           try clear q6
           try clear hx6
           try clear hf6
           try clear c7
           try clear c11
           try clear c14
           try clear c14b0
           try clear c15
           try clear c17
           try clear c18
           try clear p18
           try clear q18
           try clear hx18
           try clear p19
           try clear q19
           try clear hx19
           try clear c20
           try clear c20b0
           try clear c21
           try clear c21b0
           try clear c23
           try clear c25
           try clear c25b0
           try clear c26
           try clear c26b0
           try clear c27
           try clear c27b0
           try clear c28
           try clear c29
           try clear c33
           try clear c37
           try clear c38
           try clear c39
           try clear c42
           try clear c42b0
           try clear c44
           try clear c44b0
           try clear c44b1
           try clear c45
           try clear c45b0
           try clear c46
           try clear c47
           try clear c48
           try clear c50
           try clear c50b0
           try clear c51
           try clear c52
           try clear c54
           try clear c54b0
           try clear c55
           try clear c56
           try clear c58
           try clear c58b0
           try clear c59
           try clear c59b0
           try clear c60
           try clear c60b0
           try clear p61
           try clear q61
           try clear hx61
           try clear hf61
           try clear hcz12_0
           try clear hcz12_1
           try clear hcz12_2
           try clear hcz16_0
           try clear hcz16_1
           try clear hcz16_2
           try clear hcz19_0
           try clear hcz19_1
           try clear hcz19_2
           try clear hcz24_0
           try clear hcz24_1
           try clear hcz24_2
           try clear hcz30_0
           try clear hcz30_1
           try clear hcz30_2
           try clear hcz34_0
           try clear hcz34_1
           try clear hcz34_2
           try clear hcz39_0
           try clear hcz39_1
           try clear hcz39_2
           try clear hcz49_0
           try clear hcz49_1
           try clear hcz49_2
           try clear hcz53_0
           try clear hcz53_1
           try clear hcz53_2
           try clear hcz57_0
           try clear hcz57_1
           try clear hcz57_2
           try clear hfz12_0
           try clear hfz12_1
           try clear hfz12_2
           try clear hfz16_0
           try clear hfz16_1
           try clear hfz16_2
           try clear hfz19_0
           try clear hfz19_1
           try clear hfz19_2
           try clear hfz24_0
           try clear hfz24_1
           try clear hfz24_2
           try clear hfz30_0
           try clear hfz30_1
           try clear hfz30_2
           try clear hfz34_0
           try clear hfz34_1
           try clear hfz34_2
           try clear hfz39_0
           try clear hfz39_1
           try clear hfz39_2
           try clear hfz49_0
           try clear hfz49_1
           try clear hfz49_2
           try clear hfz53_0
           try clear hfz53_1
           try clear hfz53_2
           try clear hfz57_0
           try clear hfz57_1
           try clear hfz57_2
           try clear hx181_0
           try clear hx190_0
           try clear hx61_0
           try clear p1
           try clear p18
           try clear p181
           try clear p190
           try clear p2
           try clear p6
           try clear p61
           try clear q1
           try clear q18
           try clear q181
           try clear q190
           try clear q61
           obtain ⟨kq, x180000_31, x190001_31, x190002_31, u190001, u190002, HA, HJ31, HO_190001, HO_190002, BK178, BK179, BK189, HB⟩ := hcut
           cases kq with
           | zero => exact absurd HA.out (by simp [view_Slice.j3])
           | succ kj31 =>
            have H := HA.out
            clear HA
            simp only [view_Slice.j3] at H
            by_cases c64 : a2 > 0
            ·rw [if_pos c64] at H
             have c64b0 : decide (0 < a2) = true := decide_eq_true c64
             clear c64
             by_cases c65 : 0 ≤ a1
             ·rw [if_pos c65] at H
              have c65b0 : decide (0 ≤ a1) = true := decide_eq_true c65
              clear c65
              by_cases c66 : a1 < (l0_2.length : Int)
              ·rw [if_pos c66] at H
               have c66b0 : decide (a1 < (l0_2.length : Int)) = true := decide_eq_true c66
               clear c66
               by_cases c67 : a1 < (x190001_31.length : Int)
               ·rw [if_pos c67] at H
                have c67b0 : decide (a1 < (x190001_31.length : Int)) = true := decide_eq_true c67
                clear c67
                obtain ⟨y193, hy193⟩ : ∃ y_ : List Int, y_ = (x190001_31.set (a1 : Int).toNat a3) := ⟨_, rfl⟩
                replace H : (if a3 = 1 then (if a1 < (x190002_31.length : Int) then (some (wrap64 (t182 + (wrap64 (a2 * (rd l0_2 a1)))), y193, (x190002_31.set (a1 : Int).toNat 0), 0)) else (none)) else (some (wrap64 (t182 + (wrap64 (a2 * (rd l0_2 a1)))), y193, x190002_31, 0))) = some (r1, r2, r3, r4) := by first | (rw [hy193]; with_reducible exact H) | (have H2_ := (Option.bind_some _ _).symm.trans H; rw [hy193]; with_reducible exact H2_) | (have H2_ := (Option.bind_some _ _).symm.trans H; with_reducible exact H2_) | with_reducible exact H | (rw [hy193]; exact H) | exact H
                have Ny193 := Aside0.mk hy193
                clear hy193
                by_cases c69 : a3 = 1
                ·rw [if_pos c69] at H
                 have c69b0 : (a3 == 1) = true := beq_iff_eq.mpr c69
                 have c69b1 : (a3 != 1) = false := bne_eq_false_iff_eq.mpr c69
                 clear c69
                 by_cases c70 : a1 < (x190002_31.length : Int)
                 ·rw [if_pos c70] at H
                  have c70b0 : decide (a1 < (x190002_31.length : Int)) = true := decide_eq_true c70
                  clear c70
                  obtain ⟨y194, hy194⟩ : ∃ y_ : List Int, y_ = (x190002_31.set (a1 : Int).toNat 0) := ⟨_, rfl⟩
                  replace H : (some (wrap64 (t182 + (wrap64 (a2 * (rd l0_2 a1)))), y193, y194, 0)) = some (r1, r2, r3, r4) := by first | (rw [hy194]; with_reducible exact H) | (have H2_ := (Option.bind_some _ _).symm.trans H; rw [hy194]; with_reducible exact H2_) | (have H2_ := (Option.bind_some _ _).symm.trans H; with_reducible exact H2_) | with_reducible exact H | (rw [hy194]; exact H) | exact H
                  have Ny194 := Aside0.mk hy194
                  clear hy194
                  simp only [Option.some.injEq, Prod.mk.injEq] at H
                  obtain ⟨rfl, rfl, rfl, rfl⟩ := H
                  try go_wp2
                  have n0_ := Aside0.mk (Kd.R_drew HO_190001.out)
                  have n1_ := Aside0.mk (Kd.R_drew HO_190002.out)
                  have n2_ := Aside0.mk (blk_drew BK178.out)
                  have n3_ := Aside0.mk (blk_drew BK179.out)
                  have n4_ := Aside0.mk (blk_drew BK189.out)
                  have n5_ := Aside0.mk (below_drew1 HB.out)
                  clear HO_190001
                  clear HO_190002
                  clear BK178
                  clear BK179
                  clear BK189
                  clear HB
                  have HO_190001 := n0_
                  have HO_190002 := n1_
                  have BK178 := n2_
                  have BK179 := n3_
                  have BK189 := n4_
                  have HB := n5_
                  clear n0_ n1_ n2_ n3_ n4_ n5_
                  have p192 : 0 ≤ (a1 : Int) := of_decide_eq_true pD
                  have q192 : a1 < (l0_2.length : Int) := of_decide_eq_true pD
                  obtain ⟨ad192, e192, hx192_0⟩ := Kd.at_int HR0_2.out a1 p192 q192
                  have hw192_0 := hx192_0
                  cases e192
                  replace hx192_0 := (HB.out.cell (World.block_lt_of_cell? w _ hx192_0)).trans hx192_0
                  replace p192 := eq_true p192
                  replace q192 := eq_true q192
                  refine start_ (n := 12) (S := fun w' => w'.cell? ⟨gb189, 0, none⟩ = some (.int .i64 t182) ∧ w'.cell? ⟨gb189, 1, none⟩ = some (u190001) ∧ w'.cell? ⟨gb189, 2, none⟩ = some (u190002) ∧ w'.cell? ⟨gb178, 0, none⟩ = some (.int .i64 a0_0) ∧ w'.cell? ⟨gb178, 1, none⟩ = some (.slice (some ad181) l0_1.length c0_1) ∧ w'.cell? ⟨gb178, 2, none⟩ = some (.slice (some ad192) l0_2.length c0_2) ∧ w'.cell? (ad192.add (a1).toNat) = some (.int .i64 (rd l0_2 a1))) (ds := [11]) #[false, false, false, false, false, false, false, false, false, false, false, false] (by kernel_rfl) rfl rfl ⟨(blk_cell BK189.out 0).trans rfl, (blk_cell BK189.out 1).trans rfl, (blk_cell BK189.out 2).trans rfl, (blk_cell BK178.out 0).trans rfl, (blk_cell BK178.out 1).trans rfl, (blk_cell BK178.out 2).trans rfl, ((HB.out.cell (World.block_lt_of_cell? w _ hw192_0)).trans hw192_0)⟩ (fun hHeld => ?_); refine with_tabW view_Slice.tab17 view_Slice.bits17 (fun HT_ HW_ => ?_)
                  generalize wc.drew = w72 at HO_190001 HO_190002 BK178 BK179 BK189 HB hx192_0 hHeld ⊢
                  refine pP (i := 0) (N := some 96) #[true, false, false, false, false, false, false, false, false, false, false, false] rfl rfl HT_.out ?_
                  refine pP (i := 2) (N := some 98) #[true, false, true, false, false, false, false, false, false, false, false, false] rfl rfl HT_.out ?_
                  refine pP (i := 3) (N := some 99) #[true, false, true, true, false, false, false, false, false, false, false, false] rfl rfl HT_.out ?_
                  refine pP (i := 5) (N := some 101) #[true, false, true, true, false, true, false, false, false, false, false, false] rfl rfl HT_.out ?_
                  refine pT (i := 1) (N := some 97) #[true, true, true, true, false, true, false, false, false, false, false, false] rfl rfl HT_.out HW_.out hHeld (by rintro w' ⟨s0, s1, s2, s3, s4, s5, s6⟩; go_simp; with_reducible rfl) ?_
                  refine pT (i := 4) (N := some 100) #[true, true, true, true, true, true, false, false, false, false, false, false] rfl rfl HT_.out HW_.out hHeld (by rintro w' ⟨s0, s1, s2, s3, s4, s5, s6⟩; go_simp; with_reducible rfl) ?_
                  refine pP (i := 6) (N := some 102) #[true, true, true, true, true, true, true, false, false, false, false, false] rfl rfl HT_.out ?_
                  refine pT (i := 7) (N := some 103) #[true, true, true, true, true, true, true, true, false, false, false, false] rfl rfl HT_.out HW_.out hHeld (by rintro w' ⟨s0, s1, s2, s3, s4, s5, s6⟩; go_simp; with_reducible rfl) ?_
                  refine pP (i := 8) (N := some 104) #[true, true, true, true, true, true, true, true, true, false, false, false] rfl rfl HT_.out ?_
                  refine pP (i := 9) (N := some 105) #[true, true, true, true, true, true, true, true, true, true, false, false] rfl rfl HT_.out ?_
                  refine pP (i := 10) (N := some 106) #[true, true, true, true, true, true, true, true, true, true, true, false] rfl rfl HT_.out ?_
                  refine last_ (i := 11) (N := none) #[true, true, true, true, true, true, true, true, true, true, true, true] rfl rfl (one_of HT_.out (by kernel_rfl)) (by decide) (fun K hK => ?_)
                  have hs73 : w72.cell? ⟨gb189, 0, none⟩ = some (.int .i64 t182) := (blk_cell BK189.out 0).trans rfl
                  have hfs73 := blk_frozen BK189.out 0
                  have hns73_0 := NB178_189.out
                  have hns73_1 := NB179_189.out
                  have hms73_0 := NB189_178.out
                  have hms73_1 := NB189_179.out
                  refine skip_ (w1 := ?_) (by rfl) rfl ?_ ?_
                  rotate_left
                  ·go_simp
                   rfl
                  refine hK.out _ _ ?_
                  clear hK K
                  refine done_ (done_of HT_.out (by kernel_rfl)) ?_
                  have n0_ : Aside0 (Kd.R (Kd.int .i64) 3 (w72.setCell ⟨gb189, 0, none⟩ (.int .i64 (wrap64 (t182 + (wrap64 (a2 * (rd l0_2 a1))))))) w.heap.size (fun k_ => some k_ ≠ (u190002 : Value).ownBlock) u190001 x190001_31) := ⟨by (with_reducible repeat (first | apply Kd.R_alloc | apply Kd.R_drewN | apply Kd.R_drew)); exact Kd.R_mono (Kd.R_far (p := ⟨gb189, 0, none⟩) (Kd.R_types HO_190001.out BK189.out (by decide)) (fun _ hk => hk.2) (.int .i64 (wrap64 (t182 + (wrap64 (a2 * (rd l0_2 a1))))))) (fun _ hk => hk.1)⟩
                  have n1_ : Aside0 (Kd.R (Kd.int .i64) 3 (w72.setCell ⟨gb189, 0, none⟩ (.int .i64 (wrap64 (t182 + (wrap64 (a2 * (rd l0_2 a1))))))) w.heap.size (fun k_ => some k_ ≠ (u190001 : Value).ownBlock) u190002 x190002_31) := ⟨by (with_reducible repeat (first | apply Kd.R_alloc | apply Kd.R_drewN | apply Kd.R_drew)); exact Kd.R_mono (Kd.R_far (p := ⟨gb189, 0, none⟩) (Kd.R_types HO_190002.out BK189.out (by decide)) (fun _ hk => hk.2) (.int .i64 (wrap64 (t182 + (wrap64 (a2 * (rd l0_2 a1))))))) (fun _ hk => hk.1)⟩
                  have n2_ : Aside0 ((w72.setCell ⟨gb189, 0, none⟩ (.int .i64 (wrap64 (t182 + (wrap64 (a2 * (rd l0_2 a1))))))).heap[gb178]? = some (.cells #[.int .i64 a0_0, .slice (some ad181) l0_1.length c0_1, .slice (some ad192) l0_2.length c0_2] 24 (0, 0))) := ⟨by (with_reducible repeat (first | apply bN | apply bD | apply bA)); refine blk_far ?_ NB178_189.out _; (with_reducible repeat (first | apply bN | apply bD | apply bA)); exact BK178.out⟩
                  have n3_ : Aside0 ((w72.setCell ⟨gb189, 0, none⟩ (.int .i64 (wrap64 (t182 + (wrap64 (a2 * (rd l0_2 a1))))))).heap[gb179]? = some (.cells #[.int .i64 x180000_31, .slice none 0 0, .slice none 0 0] 24 (0, 0))) := ⟨by (with_reducible repeat (first | apply bN | apply bD | apply bA)); refine blk_far ?_ NB179_189.out _; (with_reducible repeat (first | apply bN | apply bD | apply bA)); exact BK179.out⟩
                  have n4_ : Aside0 ((w72.setCell ⟨gb189, 0, none⟩ (.int .i64 (wrap64 (t182 + (wrap64 (a2 * (rd l0_2 a1))))))).heap[gb189]? = some (.cells #[.int .i64 (wrap64 (t182 + (wrap64 (a2 * (rd l0_2 a1))))), u190001, u190002] 24 (0, 0))) := ⟨by (with_reducible repeat (first | apply bN | apply bD | apply bA)); refine blk_put (cs := #[.int .i64 t182, u190001, u190002]) ?_ 0 _ rfl; (with_reducible repeat (first | apply bN | apply bD | apply bA)); exact BK189.out⟩
                  have n5_ : Aside0 (Below w.heap.size w (w72.setCell ⟨gb189, 0, none⟩ (.int .i64 (wrap64 (t182 + (wrap64 (a2 * (rd l0_2 a1)))))))) := ⟨pB3 HB.out GE178.out GE179.out GE189.out⟩
                  (try clear HO_190001)
                  (try clear HO_190002)
                  (try clear BK178)
                  (try clear BK179)
                  (try clear BK189)
                  (try clear HB)
                  generalize (w72.setCell ⟨gb189, 0, none⟩ (.int .i64 (wrap64 (t182 + (wrap64 (a2 * (rd l0_2 a1))))))) = w74 at n0_ n1_ n2_ n3_ n4_ n5_ ⊢
                  have HO_190001 := n0_
                  have HO_190002 := n1_
                  have BK178 := n2_
                  have BK179 := n3_
                  have BK189 := n4_
                  have HB := n5_
                  clear n0_ n1_ n2_ n3_ n4_ n5_
                  have hnb75 := NB189_178.out
                  have hnc75 := NB178_189.out
                  have hnb76 := NB189_179.out
                  have hnc76 := NB179_189.out
                  have hcz77_0 : w74.cell? ⟨gb189, 0, none⟩ = some (.int .i64 (wrap64 (t182 + (wrap64 (a2 * (rd l0_2 a1)))))) := (blk_cell BK189.out 0).trans rfl
                  have hcz77_1 : w74.cell? ⟨gb189, 1, none⟩ = some (u190001) := (blk_cell BK189.out 1).trans rfl
                  have hcz77_2 : w74.cell? ⟨gb189, 2, none⟩ = some (u190002) := (blk_cell BK189.out 2).trans rfl
                  have hfz77_0 := blk_frozen BK189.out 0
                  have hfz77_1 := blk_frozen BK189.out 1
                  have hfz77_2 := blk_frozen BK189.out 2
                  have p68 : 0 ≤ (a1 : Int) := of_decide_eq_true pD
                  have q68 : (a1 : Int) < ((x190001_31.length : Int) : Int) := of_decide_eq_true pD
                  obtain ⟨go68, co68, eo68, gb68, gl68, cl68, HG68⟩ := Kd.R_form HO_190001.out (by omega)
                  (first | cases eo68 | (injection eo68 with ea_ en_ ec_; (first | subst ea_ | (injection ea_ with ea_; subst ea_)); subst ec_; clear en_))
                  have GB68 := Aside0.mk gb68
                  have GG68 := Aside0.mk HG68
                  clear gb68 gl68 HG68
                  obtain ⟨hx68_0, hf68_0⟩ := Kd.R_celln 0 HO_190001.out (a1 : Int) p68 q68
                  replace p68 := eq_true p68
                  replace q68 := eq_true q68
                  obtain ⟨hy78_, hz78_⟩ := Kd.R_celln 0 HO_190001.out (a1 : Int) (of_decide_eq_true pD) (of_decide_eq_true pD)
                  have HP78 := Kd.R_putg HO_190001.out (a1 : Int) a3
                  try go_wp2_with (first | ((with_reducible refine gate_store (t := 3) (p := 111) rfl ?_); refine store_event (t := 3) (p := 111) (v := ?vo_w79) (w1 := (w74.setCell ⟨go68, (a1 : Int).toNat, none⟩ (.int .i64 a3))) ?hg ?ho ?hn ?hr ?_; (case ho => rfl); (case hg => rfl); (case hn => rfl); (case hr => first | (go_simp; done) | (go_simp; rfl)); intro w79 hw; have hg : w74.grownBy w79 (some go68) := (by rw [hw]; exact HP78.2); have hp_ : Kd.R (Kd.int .i64) 3 w79 w.heap.size (fun k_ => some k_ ≠ (u190002 : Value).ownBlock) (.slice (some ⟨go68, 0, none⟩) x190001_31.length co68) y193 := (by rw [hw, Ny193.out]; exact HP78.1); clear HP78; have n0_ := Aside0.mk (hp_); have n1_ := Aside0.mk (Kd.R_after (v := (.slice (some ⟨go68, 0, none⟩) x190001_31.length co68)) (v1 := (.slice (some ⟨go68, 0, none⟩) x190001_31.length co68)) (ok := (fun _ => True)) (by (with_reducible repeat (first | apply Kd.R_alloc | apply Kd.R_drewN | apply Kd.R_drew)); exact Kd.R_mono HO_190002.out (fun _ hk => ⟨trivial, hk⟩)) hg (.inl rfl)); have n2_ := Aside0.mk (blk_grown (g := gb178) (pK BK178.out) hg (Kd.R_ne HO_190001.out BK178.out (by decide))); have n3_ := Aside0.mk (blk_grown (g := gb179) (pK BK179.out) hg (Kd.R_ne HO_190001.out BK179.out (by decide))); have n4_ := Aside0.mk (blk_grown (g := gb189) (pK BK189.out) hg (Kd.R_ne HO_190001.out BK189.out (by decide))); have n5_ := Aside0.mk ((by rw [hw]; exact below_set (HB.out) GB68.out : Below w.heap.size w w79)); clear HO_190001; clear HO_190002; clear BK178; clear BK179; clear BK189; clear HB; have HO_190001 := n0_; have HO_190002 := n1_; have BK178 := n2_; have BK179 := n3_; have BK189 := n4_; have HB := n5_; clear n0_ n1_ n2_ n3_ n4_ n5_; clear hg hw hp_; have hcz80_0 : w79.cell? ⟨gb189, 0, none⟩ = some (.int .i64 (wrap64 (t182 + (wrap64 (a2 * (rd l0_2 a1)))))) := (blk_cell BK189.out 0).trans rfl; have hcz80_1 : w79.cell? ⟨gb189, 1, none⟩ = some (.slice (some ⟨go68, 0, none⟩) x190001_31.length co68) := (blk_cell BK189.out 1).trans rfl; have hcz80_2 : w79.cell? ⟨gb189, 2, none⟩ = some (u190002) := (blk_cell BK189.out 2).trans rfl; have hfz80_0 := blk_frozen BK189.out 0; have hfz80_1 := blk_frozen BK189.out 1; have hfz80_2 := blk_frozen BK189.out 2; have p71 : 0 ≤ (a1 : Int) := of_decide_eq_true pD; have q71 : (a1 : Int) < ((x190002_31.length : Int) : Int) := of_decide_eq_true pD; obtain ⟨go71, co71, eo71, gb71, gl71, cl71, HG71⟩ := Kd.R_form HO_190002.out (by omega); (first | cases eo71 | (injection eo71 with ea_ en_ ec_; (first | subst ea_ | (injection ea_ with ea_; subst ea_)); subst ec_; clear en_)); have GB71 := Aside0.mk gb71; have GG71 := Aside0.mk HG71; clear gb71 gl71 HG71; obtain ⟨hx71_0, hf71_0⟩ := Kd.R_celln 0 HO_190002.out (a1 : Int) p71 q71; replace p71 := eq_true p71; replace q71 := eq_true q71; have n_ := Aside0.mk (Kd.R_mono (ok' := (fun k_ => some k_ ≠ (.slice (some ⟨go68, 0, none⟩) x190001_31.length co68 : Value).ownBlock)) HO_190002.out (fun k_ hk => hk.2)); clear HO_190002; have HO_190002 := n_; clear n_; obtain ⟨hy81_, hz81_⟩ := Kd.R_celln 0 HO_190002.out (a1 : Int) (of_decide_eq_true pD) (of_decide_eq_true pD); have HP81 := Kd.R_putg HO_190002.out (a1 : Int) 0) | ((with_reducible refine gate_store (t := 3) (p := 117) rfl ?_); refine store_event (t := 3) (p := 117) (v := ?vo_w82) (w1 := (w79.setCell ⟨go71, (a1 : Int).toNat, none⟩ (.int .i64 0))) ?hg ?ho ?hn ?hr ?_; (case ho => rfl); (case hg => rfl); (case hn => rfl); (case hr => first | (go_simp; done) | (go_simp; rfl)); intro w82 hw; have hg : w79.grownBy w82 (some go71) := (by rw [hw]; exact HP81.2); have hp_ : Kd.R (Kd.int .i64) 3 w82 w.heap.size (fun k_ => some k_ ≠ (.slice (some ⟨go68, 0, none⟩) x190001_31.length co68 : Value).ownBlock) (.slice (some ⟨go71, 0, none⟩) x190002_31.length co71) y194 := (by rw [hw, Ny194.out]; exact HP81.1); clear HP81; have n0_ := Aside0.mk (Kd.R_after (v := (.slice (some ⟨go71, 0, none⟩) x190002_31.length co71)) (v1 := (.slice (some ⟨go71, 0, none⟩) x190002_31.length co71)) (ok := (fun _ => True)) (by (with_reducible repeat (first | apply Kd.R_alloc | apply Kd.R_drewN | apply Kd.R_drew)); exact Kd.R_mono HO_190001.out (fun _ hk => ⟨trivial, hk⟩)) hg (.inl rfl)); have n1_ := Aside0.mk (hp_); have n2_ := Aside0.mk (blk_grown (g := gb178) (pK BK178.out) hg (Kd.R_ne HO_190002.out BK178.out (by decide))); have n3_ := Aside0.mk (blk_grown (g := gb179) (pK BK179.out) hg (Kd.R_ne HO_190002.out BK179.out (by decide))); have n4_ := Aside0.mk (blk_grown (g := gb189) (pK BK189.out) hg (Kd.R_ne HO_190002.out BK189.out (by decide))); have n5_ := Aside0.mk ((by rw [hw]; exact below_set (HB.out) GB71.out : Below w.heap.size w w82)); clear HO_190001; clear HO_190002; clear BK178; clear BK179; clear BK189; clear HB; have HO_190001 := n0_; have HO_190002 := n1_; have BK178 := n2_; have BK179 := n3_; have BK189 := n4_; have HB := n5_; clear n0_ n1_ n2_ n3_ n4_ n5_; clear hg hw hp_; have hcz83_0 : w82.cell? ⟨gb189, 0, none⟩ = some (.int .i64 (wrap64 (t182 + (wrap64 (a2 * (rd l0_2 a1)))))) := (blk_cell BK189.out 0).trans rfl; have hcz83_1 : w82.cell? ⟨gb189, 1, none⟩ = some (.slice (some ⟨go68, 0, none⟩) x190001_31.length co68) := (blk_cell BK189.out 1).trans rfl; have hcz83_2 : w82.cell? ⟨gb189, 2, none⟩ = some (.slice (some ⟨go71, 0, none⟩) x190002_31.length co71) := (blk_cell BK189.out 2).trans rfl; have hfz83_0 := blk_frozen BK189.out 0; have hfz83_1 := blk_frozen BK189.out 1; have hfz83_2 := blk_frozen BK189.out 2; have hnb84 := NB179_178.out; have hnc84 := NB178_179.out; have hcz85_0 : w82.cell? ⟨gb179, 0, none⟩ = some (.int .i64 x180000_31) := (blk_cell BK179.out 0).trans rfl; have hcz85_1 : w82.cell? ⟨gb179, 1, none⟩ = some (.slice none 0 0) := (blk_cell BK179.out 1).trans rfl; have hcz85_2 : w82.cell? ⟨gb179, 2, none⟩ = some (.slice none 0 0) := (blk_cell BK179.out 2).trans rfl; have hfz85_0 := blk_frozen BK179.out 0; have hfz85_1 := blk_frozen BK179.out 1; have hfz85_2 := blk_frozen BK179.out 2))
                  refine bodyPost_ret (results_ct rfl _ _ gb179 24 #[.int .i64 (wrap64 (t182 + (wrap64 (a2 * (rd l0_2 a1))))), .slice (some ⟨go68, 0, none⟩) x190001_31.length co68, .slice (some ⟨go71, 0, none⟩) x190002_31.length co71] (0, 0) _ rfl (by (with_reducible repeat (first | apply bN | apply bD | apply bA)); refine blk_put (cs := #[.int .i64 (wrap64 (t182 + (wrap64 (a2 * (rd l0_2 a1))))), .slice (some ⟨go68, 0, none⟩) x190001_31.length co68, .slice none 0 0]) ?_ 2 _ rfl; (with_reducible repeat (first | apply bN | apply bD | apply bA)); refine blk_put (cs := #[.int .i64 (wrap64 (t182 + (wrap64 (a2 * (rd l0_2 a1))))), .slice none 0 0, .slice none 0 0]) ?_ 1 _ rfl; (with_reducible repeat (first | apply bN | apply bD | apply bA)); refine blk_put (cs := #[.int .i64 x180000_31, .slice none 0 0, .slice none 0 0]) ?_ 0 _ rfl; (with_reducible repeat (first | apply bN | apply bD | apply bA)); exact BK179.out) Try.underlying24 rfl (by kernel_rfl)) rfl ?_
                  exact ⟨_, _, pE, by (with_reducible repeat (first | apply Kd.R_alloc | apply Kd.R_drewN | apply Kd.R_drew)); exact Kd.R_mono (Kd.R_far (p := ⟨gb179, 2, none⟩) (Kd.R_far (p := ⟨gb179, 1, none⟩) (Kd.R_far (p := ⟨gb179, 0, none⟩) (Kd.R_types HO_190001.out BK179.out (by decide)) (fun _ hk => hk.2) (.int .i64 (wrap64 (t182 + (wrap64 (a2 * (rd l0_2 a1))))))) (fun _ hk => hk.2) (.slice (some ⟨go68, 0, none⟩) x190001_31.length co68)) (fun _ hk => hk.2) (.slice (some ⟨go71, 0, none⟩) x190002_31.length co71)) (fun _ hk => hk.1.2), by (with_reducible repeat (first | apply Kd.R_alloc | apply Kd.R_drewN | apply Kd.R_drew)); exact Kd.R_mono (Kd.R_far (p := ⟨gb179, 2, none⟩) (Kd.R_far (p := ⟨gb179, 1, none⟩) (Kd.R_far (p := ⟨gb179, 0, none⟩) (Kd.R_types HO_190002.out BK179.out (by decide)) (fun _ hk => hk.2) (.int .i64 (wrap64 (t182 + (wrap64 (a2 * (rd l0_2 a1))))))) (fun _ hk => hk.2) (.slice (some ⟨go68, 0, none⟩) x190001_31.length co68)) (fun _ hk => hk.2) (.slice (some ⟨go71, 0, none⟩) x190002_31.length co71)) (fun _ hk => hk.1), pB3 HB.out GE178.out GE179.out GE189.out⟩
                 ·rw [if_neg c70] at H
                  exact absurd H (by simp)
                ·rw [if_neg c69] at H
                 have c69b0 : (a3 == 1) = false := beq_eq_false_iff_ne.mpr c69
                 have c69b1 : (a3 != 1) = true := bne_iff_ne.mpr c69
                 simp only [Option.some.injEq, Prod.mk.injEq] at H
                 obtain ⟨rfl, rfl, rfl, rfl⟩ := H
                 try go_wp2
                 have n0_ := Aside0.mk (Kd.R_drew HO_190001.out)
                 have n1_ := Aside0.mk (Kd.R_drew HO_190002.out)
                 have n2_ := Aside0.mk (blk_drew BK178.out)
                 have n3_ := Aside0.mk (blk_drew BK179.out)
                 have n4_ := Aside0.mk (blk_drew BK189.out)
                 have n5_ := Aside0.mk (below_drew1 HB.out)
                 clear HO_190001
                 clear HO_190002
                 clear BK178
                 clear BK179
                 clear BK189
                 clear HB
                 have HO_190001 := n0_
                 have HO_190002 := n1_
                 have BK178 := n2_
                 have BK179 := n3_
                 have BK189 := n4_
                 have HB := n5_
                 clear n0_ n1_ n2_ n3_ n4_ n5_
                 have p192 : 0 ≤ (a1 : Int) := of_decide_eq_true pD
                 have q192 : a1 < (l0_2.length : Int) := of_decide_eq_true pD
                 obtain ⟨ad192, e192, hx192_0⟩ := Kd.at_int HR0_2.out a1 p192 q192
                 have hw192_0 := hx192_0
                 cases e192
                 replace hx192_0 := (HB.out.cell (World.block_lt_of_cell? w _ hx192_0)).trans hx192_0
                 replace p192 := eq_true p192
                 replace q192 := eq_true q192
                 refine start_ (n := 12) (S := fun w' => w'.cell? ⟨gb189, 0, none⟩ = some (.int .i64 t182) ∧ w'.cell? ⟨gb189, 1, none⟩ = some (u190001) ∧ w'.cell? ⟨gb189, 2, none⟩ = some (u190002) ∧ w'.cell? ⟨gb178, 0, none⟩ = some (.int .i64 a0_0) ∧ w'.cell? ⟨gb178, 1, none⟩ = some (.slice (some ad181) l0_1.length c0_1) ∧ w'.cell? ⟨gb178, 2, none⟩ = some (.slice (some ad192) l0_2.length c0_2) ∧ w'.cell? (ad192.add (a1).toNat) = some (.int .i64 (rd l0_2 a1))) (ds := [11]) #[false, false, false, false, false, false, false, false, false, false, false, false] (by kernel_rfl) rfl rfl ⟨(blk_cell BK189.out 0).trans rfl, (blk_cell BK189.out 1).trans rfl, (blk_cell BK189.out 2).trans rfl, (blk_cell BK178.out 0).trans rfl, (blk_cell BK178.out 1).trans rfl, (blk_cell BK178.out 2).trans rfl, ((HB.out.cell (World.block_lt_of_cell? w _ hw192_0)).trans hw192_0)⟩ (fun hHeld => ?_); refine with_tabW view_Slice.tab17 view_Slice.bits17 (fun HT_ HW_ => ?_)
                 generalize wc.drew = w86 at HO_190001 HO_190002 BK178 BK179 BK189 HB hx192_0 hHeld ⊢
                 refine pP (i := 0) (N := some 96) #[true, false, false, false, false, false, false, false, false, false, false, false] rfl rfl HT_.out ?_
                 refine pP (i := 2) (N := some 98) #[true, false, true, false, false, false, false, false, false, false, false, false] rfl rfl HT_.out ?_
                 refine pP (i := 3) (N := some 99) #[true, false, true, true, false, false, false, false, false, false, false, false] rfl rfl HT_.out ?_
                 refine pP (i := 5) (N := some 101) #[true, false, true, true, false, true, false, false, false, false, false, false] rfl rfl HT_.out ?_
                 refine pT (i := 1) (N := some 97) #[true, true, true, true, false, true, false, false, false, false, false, false] rfl rfl HT_.out HW_.out hHeld (by rintro w' ⟨s0, s1, s2, s3, s4, s5, s6⟩; go_simp; with_reducible rfl) ?_
                 refine pT (i := 4) (N := some 100) #[true, true, true, true, true, true, false, false, false, false, false, false] rfl rfl HT_.out HW_.out hHeld (by rintro w' ⟨s0, s1, s2, s3, s4, s5, s6⟩; go_simp; with_reducible rfl) ?_
                 refine pP (i := 6) (N := some 102) #[true, true, true, true, true, true, true, false, false, false, false, false] rfl rfl HT_.out ?_
                 refine pT (i := 7) (N := some 103) #[true, true, true, true, true, true, true, true, false, false, false, false] rfl rfl HT_.out HW_.out hHeld (by rintro w' ⟨s0, s1, s2, s3, s4, s5, s6⟩; go_simp; with_reducible rfl) ?_
                 refine pP (i := 8) (N := some 104) #[true, true, true, true, true, true, true, true, true, false, false, false] rfl rfl HT_.out ?_
                 refine pP (i := 9) (N := some 105) #[true, true, true, true, true, true, true, true, true, true, false, false] rfl rfl HT_.out ?_
                 refine pP (i := 10) (N := some 106) #[true, true, true, true, true, true, true, true, true, true, true, false] rfl rfl HT_.out ?_
                 refine last_ (i := 11) (N := none) #[true, true, true, true, true, true, true, true, true, true, true, true] rfl rfl (one_of HT_.out (by kernel_rfl)) (by decide) (fun K hK => ?_)
                 have hs87 : w86.cell? ⟨gb189, 0, none⟩ = some (.int .i64 t182) := (blk_cell BK189.out 0).trans rfl
                 have hfs87 := blk_frozen BK189.out 0
                 have hns87_0 := NB178_189.out
                 have hns87_1 := NB179_189.out
                 have hms87_0 := NB189_178.out
                 have hms87_1 := NB189_179.out
                 refine skip_ (w1 := ?_) (by rfl) rfl ?_ ?_
                 rotate_left
                 ·go_simp
                  rfl
                 refine hK.out _ _ ?_
                 clear hK K
                 refine done_ (done_of HT_.out (by kernel_rfl)) ?_
                 have n0_ : Aside0 (Kd.R (Kd.int .i64) 3 (w86.setCell ⟨gb189, 0, none⟩ (.int .i64 (wrap64 (t182 + (wrap64 (a2 * (rd l0_2 a1))))))) w.heap.size (fun k_ => some k_ ≠ (u190002 : Value).ownBlock) u190001 x190001_31) := ⟨by (with_reducible repeat (first | apply Kd.R_alloc | apply Kd.R_drewN | apply Kd.R_drew)); exact Kd.R_mono (Kd.R_far (p := ⟨gb189, 0, none⟩) (Kd.R_types HO_190001.out BK189.out (by decide)) (fun _ hk => hk.2) (.int .i64 (wrap64 (t182 + (wrap64 (a2 * (rd l0_2 a1))))))) (fun _ hk => hk.1)⟩
                 have n1_ : Aside0 (Kd.R (Kd.int .i64) 3 (w86.setCell ⟨gb189, 0, none⟩ (.int .i64 (wrap64 (t182 + (wrap64 (a2 * (rd l0_2 a1))))))) w.heap.size (fun k_ => some k_ ≠ (u190001 : Value).ownBlock) u190002 x190002_31) := ⟨by (with_reducible repeat (first | apply Kd.R_alloc | apply Kd.R_drewN | apply Kd.R_drew)); exact Kd.R_mono (Kd.R_far (p := ⟨gb189, 0, none⟩) (Kd.R_types HO_190002.out BK189.out (by decide)) (fun _ hk => hk.2) (.int .i64 (wrap64 (t182 + (wrap64 (a2 * (rd l0_2 a1))))))) (fun _ hk => hk.1)⟩
                 have n2_ : Aside0 ((w86.setCell ⟨gb189, 0, none⟩ (.int .i64 (wrap64 (t182 + (wrap64 (a2 * (rd l0_2 a1))))))).heap[gb178]? = some (.cells #[.int .i64 a0_0, .slice (some ad181) l0_1.length c0_1, .slice (some ad192) l0_2.length c0_2] 24 (0, 0))) := ⟨by (with_reducible repeat (first | apply bN | apply bD | apply bA)); refine blk_far ?_ NB178_189.out _; (with_reducible repeat (first | apply bN | apply bD | apply bA)); exact BK178.out⟩
                 have n3_ : Aside0 ((w86.setCell ⟨gb189, 0, none⟩ (.int .i64 (wrap64 (t182 + (wrap64 (a2 * (rd l0_2 a1))))))).heap[gb179]? = some (.cells #[.int .i64 x180000_31, .slice none 0 0, .slice none 0 0] 24 (0, 0))) := ⟨by (with_reducible repeat (first | apply bN | apply bD | apply bA)); refine blk_far ?_ NB179_189.out _; (with_reducible repeat (first | apply bN | apply bD | apply bA)); exact BK179.out⟩
                 have n4_ : Aside0 ((w86.setCell ⟨gb189, 0, none⟩ (.int .i64 (wrap64 (t182 + (wrap64 (a2 * (rd l0_2 a1))))))).heap[gb189]? = some (.cells #[.int .i64 (wrap64 (t182 + (wrap64 (a2 * (rd l0_2 a1))))), u190001, u190002] 24 (0, 0))) := ⟨by (with_reducible repeat (first | apply bN | apply bD | apply bA)); refine blk_put (cs := #[.int .i64 t182, u190001, u190002]) ?_ 0 _ rfl; (with_reducible repeat (first | apply bN | apply bD | apply bA)); exact BK189.out⟩
                 have n5_ : Aside0 (Below w.heap.size w (w86.setCell ⟨gb189, 0, none⟩ (.int .i64 (wrap64 (t182 + (wrap64 (a2 * (rd l0_2 a1)))))))) := ⟨pB3 HB.out GE178.out GE179.out GE189.out⟩
                 (try clear HO_190001)
                 (try clear HO_190002)
                 (try clear BK178)
                 (try clear BK179)
                 (try clear BK189)
                 (try clear HB)
                 generalize (w86.setCell ⟨gb189, 0, none⟩ (.int .i64 (wrap64 (t182 + (wrap64 (a2 * (rd l0_2 a1))))))) = w88 at n0_ n1_ n2_ n3_ n4_ n5_ ⊢
                 have HO_190001 := n0_
                 have HO_190002 := n1_
                 have BK178 := n2_
                 have BK179 := n3_
                 have BK189 := n4_
                 have HB := n5_
                 clear n0_ n1_ n2_ n3_ n4_ n5_
                 have hnb89 := NB189_178.out
                 have hnc89 := NB178_189.out
                 have hnb90 := NB189_179.out
                 have hnc90 := NB179_189.out
                 have hcz91_0 : w88.cell? ⟨gb189, 0, none⟩ = some (.int .i64 (wrap64 (t182 + (wrap64 (a2 * (rd l0_2 a1)))))) := (blk_cell BK189.out 0).trans rfl
                 have hcz91_1 : w88.cell? ⟨gb189, 1, none⟩ = some (u190001) := (blk_cell BK189.out 1).trans rfl
                 have hcz91_2 : w88.cell? ⟨gb189, 2, none⟩ = some (u190002) := (blk_cell BK189.out 2).trans rfl
                 have hfz91_0 := blk_frozen BK189.out 0
                 have hfz91_1 := blk_frozen BK189.out 1
                 have hfz91_2 := blk_frozen BK189.out 2
                 have p68 : 0 ≤ (a1 : Int) := of_decide_eq_true pD
                 have q68 : (a1 : Int) < ((x190001_31.length : Int) : Int) := of_decide_eq_true pD
                 obtain ⟨go68, co68, eo68, gb68, gl68, cl68, HG68⟩ := Kd.R_form HO_190001.out (by omega)
                 (first | cases eo68 | (injection eo68 with ea_ en_ ec_; (first | subst ea_ | (injection ea_ with ea_; subst ea_)); subst ec_; clear en_))
                 have GB68 := Aside0.mk gb68
                 have GG68 := Aside0.mk HG68
                 clear gb68 gl68 HG68
                 obtain ⟨hx68_0, hf68_0⟩ := Kd.R_celln 0 HO_190001.out (a1 : Int) p68 q68
                 replace p68 := eq_true p68
                 replace q68 := eq_true q68
                 obtain ⟨hy92_, hz92_⟩ := Kd.R_celln 0 HO_190001.out (a1 : Int) (of_decide_eq_true pD) (of_decide_eq_true pD)
                 have HP92 := Kd.R_putg HO_190001.out (a1 : Int) a3
                 try go_wp2_with (first | ((with_reducible refine gate_store (t := 3) (p := 111) rfl ?_); refine store_event (t := 3) (p := 111) (v := ?vo_w93) (w1 := (w88.setCell ⟨go68, (a1 : Int).toNat, none⟩ (.int .i64 a3))) ?hg ?ho ?hn ?hr ?_; (case ho => rfl); (case hg => rfl); (case hn => rfl); (case hr => first | (go_simp; done) | (go_simp; rfl)); intro w93 hw; have hg : w88.grownBy w93 (some go68) := (by rw [hw]; exact HP92.2); have hp_ : Kd.R (Kd.int .i64) 3 w93 w.heap.size (fun k_ => some k_ ≠ (u190002 : Value).ownBlock) (.slice (some ⟨go68, 0, none⟩) x190001_31.length co68) y193 := (by rw [hw, Ny193.out]; exact HP92.1); clear HP92; have n0_ := Aside0.mk (hp_); have n1_ := Aside0.mk (Kd.R_after (v := (.slice (some ⟨go68, 0, none⟩) x190001_31.length co68)) (v1 := (.slice (some ⟨go68, 0, none⟩) x190001_31.length co68)) (ok := (fun _ => True)) (by (with_reducible repeat (first | apply Kd.R_alloc | apply Kd.R_drewN | apply Kd.R_drew)); exact Kd.R_mono HO_190002.out (fun _ hk => ⟨trivial, hk⟩)) hg (.inl rfl)); have n2_ := Aside0.mk (blk_grown (g := gb178) (pK BK178.out) hg (Kd.R_ne HO_190001.out BK178.out (by decide))); have n3_ := Aside0.mk (blk_grown (g := gb179) (pK BK179.out) hg (Kd.R_ne HO_190001.out BK179.out (by decide))); have n4_ := Aside0.mk (blk_grown (g := gb189) (pK BK189.out) hg (Kd.R_ne HO_190001.out BK189.out (by decide))); have n5_ := Aside0.mk ((by rw [hw]; exact below_set (HB.out) GB68.out : Below w.heap.size w w93)); clear HO_190001; clear HO_190002; clear BK178; clear BK179; clear BK189; clear HB; have HO_190001 := n0_; have HO_190002 := n1_; have BK178 := n2_; have BK179 := n3_; have BK189 := n4_; have HB := n5_; clear n0_ n1_ n2_ n3_ n4_ n5_; clear hg hw hp_; have hcz94_0 : w93.cell? ⟨gb189, 0, none⟩ = some (.int .i64 (wrap64 (t182 + (wrap64 (a2 * (rd l0_2 a1)))))) := (blk_cell BK189.out 0).trans rfl; have hcz94_1 : w93.cell? ⟨gb189, 1, none⟩ = some (.slice (some ⟨go68, 0, none⟩) x190001_31.length co68) := (blk_cell BK189.out 1).trans rfl; have hcz94_2 : w93.cell? ⟨gb189, 2, none⟩ = some (u190002) := (blk_cell BK189.out 2).trans rfl; have hfz94_0 := blk_frozen BK189.out 0; have hfz94_1 := blk_frozen BK189.out 1; have hfz94_2 := blk_frozen BK189.out 2; have hnb95 := NB179_178.out; have hnc95 := NB178_179.out; have hcz96_0 : w93.cell? ⟨gb179, 0, none⟩ = some (.int .i64 x180000_31) := (blk_cell BK179.out 0).trans rfl; have hcz96_1 : w93.cell? ⟨gb179, 1, none⟩ = some (.slice none 0 0) := (blk_cell BK179.out 1).trans rfl; have hcz96_2 : w93.cell? ⟨gb179, 2, none⟩ = some (.slice none 0 0) := (blk_cell BK179.out 2).trans rfl; have hfz96_0 := blk_frozen BK179.out 0; have hfz96_1 := blk_frozen BK179.out 1; have hfz96_2 := blk_frozen BK179.out 2; obtain ⟨Ao97, co97, eo97⟩ := Kd.R_slice HO_190002.out; subst eo97))
                 refine bodyPost_ret (results_ct rfl _ _ gb179 24 #[.int .i64 (wrap64 (t182 + (wrap64 (a2 * (rd l0_2 a1))))), .slice (some ⟨go68, 0, none⟩) x190001_31.length co68, .slice Ao97 x190002_31.length co97] (0, 0) _ rfl (by (with_reducible repeat (first | apply bN | apply bD | apply bA)); refine blk_put (cs := #[.int .i64 (wrap64 (t182 + (wrap64 (a2 * (rd l0_2 a1))))), .slice (some ⟨go68, 0, none⟩) x190001_31.length co68, .slice none 0 0]) ?_ 2 _ rfl; (with_reducible repeat (first | apply bN | apply bD | apply bA)); refine blk_put (cs := #[.int .i64 (wrap64 (t182 + (wrap64 (a2 * (rd l0_2 a1))))), .slice none 0 0, .slice none 0 0]) ?_ 1 _ rfl; (with_reducible repeat (first | apply bN | apply bD | apply bA)); refine blk_put (cs := #[.int .i64 x180000_31, .slice none 0 0, .slice none 0 0]) ?_ 0 _ rfl; (with_reducible repeat (first | apply bN | apply bD | apply bA)); exact BK179.out) Try.underlying24 rfl (by kernel_rfl)) rfl ?_
                 exact ⟨_, _, pE, by (with_reducible repeat (first | apply Kd.R_alloc | apply Kd.R_drewN | apply Kd.R_drew)); exact Kd.R_mono (Kd.R_far (p := ⟨gb179, 2, none⟩) (Kd.R_far (p := ⟨gb179, 1, none⟩) (Kd.R_far (p := ⟨gb179, 0, none⟩) (Kd.R_types HO_190001.out BK179.out (by decide)) (fun _ hk => hk.2) (.int .i64 (wrap64 (t182 + (wrap64 (a2 * (rd l0_2 a1))))))) (fun _ hk => hk.2) (.slice (some ⟨go68, 0, none⟩) x190001_31.length co68)) (fun _ hk => hk.2) (.slice Ao97 x190002_31.length co97)) (fun _ hk => hk.1), by (with_reducible repeat (first | apply Kd.R_alloc | apply Kd.R_drewN | apply Kd.R_drew)); exact Kd.R_mono (Kd.R_far (p := ⟨gb179, 2, none⟩) (Kd.R_far (p := ⟨gb179, 1, none⟩) (Kd.R_far (p := ⟨gb179, 0, none⟩) (Kd.R_types HO_190002.out BK179.out (by decide)) (fun _ hk => hk.2) (.int .i64 (wrap64 (t182 + (wrap64 (a2 * (rd l0_2 a1))))))) (fun _ hk => hk.2) (.slice (some ⟨go68, 0, none⟩) x190001_31.length co68)) (fun _ hk => hk.2) (.slice Ao97 x190002_31.length co97)) (fun _ hk => hk.1.2), pB3 HB.out GE178.out GE179.out GE189.out⟩
               ·rw [if_neg c67] at H
                exact absurd H (by simp)
              ·rw [if_neg c66] at H
               exact absurd H (by simp)
             ·rw [if_neg c65] at H
              exact absurd H (by simp)
            ·rw [if_neg c64] at H
             have c64b0 : decide (0 < a2) = false := decide_eq_false c64
             clear c64
             by_cases c98 : 0 ≤ a1
             ·rw [if_pos c98] at H
              have c98b0 : decide (0 ≤ a1) = true := decide_eq_true c98
              clear c98
              by_cases c99 : a1 < (x190001_31.length : Int)
              ·rw [if_pos c99] at H
               have c99b0 : decide (a1 < (x190001_31.length : Int)) = true := decide_eq_true c99
               clear c99
               obtain ⟨y195, hy195⟩ : ∃ y_ : List Int, y_ = (x190001_31.set (a1 : Int).toNat a3) := ⟨_, rfl⟩
               replace H : (if a3 = 1 then (if a1 < (x190002_31.length : Int) then (some (t182, y195, (x190002_31.set (a1 : Int).toNat 0), 0)) else (none)) else (some (t182, y195, x190002_31, 0))) = some (r1, r2, r3, r4) := by first | (rw [hy195]; with_reducible exact H) | (have H2_ := (Option.bind_some _ _).symm.trans H; rw [hy195]; with_reducible exact H2_) | (have H2_ := (Option.bind_some _ _).symm.trans H; with_reducible exact H2_) | with_reducible exact H | (rw [hy195]; exact H) | exact H
               have Ny195 := Aside0.mk hy195
               clear hy195
               by_cases c101 : a3 = 1
               ·rw [if_pos c101] at H
                have c101b0 : (a3 == 1) = true := beq_iff_eq.mpr c101
                have c101b1 : (a3 != 1) = false := bne_eq_false_iff_eq.mpr c101
                clear c101
                by_cases c102 : a1 < (x190002_31.length : Int)
                ·rw [if_pos c102] at H
                 have c102b0 : decide (a1 < (x190002_31.length : Int)) = true := decide_eq_true c102
                 clear c102
                 obtain ⟨y196, hy196⟩ : ∃ y_ : List Int, y_ = (x190002_31.set (a1 : Int).toNat 0) := ⟨_, rfl⟩
                 replace H : (some (t182, y195, y196, 0)) = some (r1, r2, r3, r4) := by first | (rw [hy196]; with_reducible exact H) | (have H2_ := (Option.bind_some _ _).symm.trans H; rw [hy196]; with_reducible exact H2_) | (have H2_ := (Option.bind_some _ _).symm.trans H; with_reducible exact H2_) | with_reducible exact H | (rw [hy196]; exact H) | exact H
                 have Ny196 := Aside0.mk hy196
                 clear hy196
                 simp only [Option.some.injEq, Prod.mk.injEq] at H
                 obtain ⟨rfl, rfl, rfl, rfl⟩ := H
                 have hnb104 := NB189_178.out
                 have hnc104 := NB178_189.out
                 have hnb105 := NB189_179.out
                 have hnc105 := NB179_189.out
                 have hcz106_0 : wc.cell? ⟨gb189, 0, none⟩ = some (.int .i64 t182) := (blk_cell BK189.out 0).trans rfl
                 have hcz106_1 : wc.cell? ⟨gb189, 1, none⟩ = some (u190001) := (blk_cell BK189.out 1).trans rfl
                 have hcz106_2 : wc.cell? ⟨gb189, 2, none⟩ = some (u190002) := (blk_cell BK189.out 2).trans rfl
                 have hfz106_0 := blk_frozen BK189.out 0
                 have hfz106_1 := blk_frozen BK189.out 1
                 have hfz106_2 := blk_frozen BK189.out 2
                 have p100 : 0 ≤ (a1 : Int) := of_decide_eq_true pD
                 have q100 : (a1 : Int) < ((x190001_31.length : Int) : Int) := of_decide_eq_true pD
                 obtain ⟨go100, co100, eo100, gb100, gl100, cl100, HG100⟩ := Kd.R_form HO_190001.out (by omega)
                 (first | cases eo100 | (injection eo100 with ea_ en_ ec_; (first | subst ea_ | (injection ea_ with ea_; subst ea_)); subst ec_; clear en_))
                 have GB100 := Aside0.mk gb100
                 have GG100 := Aside0.mk HG100
                 clear gb100 gl100 HG100
                 obtain ⟨hx100_0, hf100_0⟩ := Kd.R_celln 0 HO_190001.out (a1 : Int) p100 q100
                 replace p100 := eq_true p100
                 replace q100 := eq_true q100
                 have HP107 := Kd.R_putg HO_190001.out (a1 : Int) a3
                 go_wp2_with (first | ((with_reducible refine gate_store (t := 3) (p := 111) rfl ?_); refine store_event (t := 3) (p := 111) (v := ?vo_w108) (w1 := (wc.setCell ⟨go100, (a1 : Int).toNat, none⟩ (.int .i64 a3))) ?hg ?ho ?hn ?hr ?_; (case ho => rfl); (case hg => rfl); (case hn => rfl); (case hr => first | (go_simp; done) | (go_simp; rfl)); intro w108 hw; have hg : wc.grownBy w108 (some go100) := (by rw [hw]; exact HP107.2); have hp_ : Kd.R (Kd.int .i64) 3 w108 w.heap.size (fun k_ => some k_ ≠ (u190002 : Value).ownBlock) (.slice (some ⟨go100, 0, none⟩) x190001_31.length co100) y195 := (by rw [hw, Ny195.out]; exact HP107.1); clear HP107; have n0_ := Aside0.mk (hp_); have n1_ := Aside0.mk (Kd.R_after (v := (.slice (some ⟨go100, 0, none⟩) x190001_31.length co100)) (v1 := (.slice (some ⟨go100, 0, none⟩) x190001_31.length co100)) (ok := (fun _ => True)) (by (with_reducible repeat (first | apply Kd.R_alloc | apply Kd.R_drewN | apply Kd.R_drew)); exact Kd.R_mono HO_190002.out (fun _ hk => ⟨trivial, hk⟩)) hg (.inl rfl)); have n2_ := Aside0.mk (blk_grown (g := gb178) (pK BK178.out) hg (Kd.R_ne HO_190001.out BK178.out (by decide))); have n3_ := Aside0.mk (blk_grown (g := gb179) (pK BK179.out) hg (Kd.R_ne HO_190001.out BK179.out (by decide))); have n4_ := Aside0.mk (blk_grown (g := gb189) (pK BK189.out) hg (Kd.R_ne HO_190001.out BK189.out (by decide))); have n5_ := Aside0.mk ((by rw [hw]; exact below_set (HB.out) GB100.out : Below w.heap.size w w108)); clear HO_190001; clear HO_190002; clear BK178; clear BK179; clear BK189; clear HB; have HO_190001 := n0_; have HO_190002 := n1_; have BK178 := n2_; have BK179 := n3_; have BK189 := n4_; have HB := n5_; clear n0_ n1_ n2_ n3_ n4_ n5_; clear hg hw hp_; have hcz109_0 : w108.cell? ⟨gb189, 0, none⟩ = some (.int .i64 t182) := (blk_cell BK189.out 0).trans rfl; have hcz109_1 : w108.cell? ⟨gb189, 1, none⟩ = some (.slice (some ⟨go100, 0, none⟩) x190001_31.length co100) := (blk_cell BK189.out 1).trans rfl; have hcz109_2 : w108.cell? ⟨gb189, 2, none⟩ = some (u190002) := (blk_cell BK189.out 2).trans rfl; have hfz109_0 := blk_frozen BK189.out 0; have hfz109_1 := blk_frozen BK189.out 1; have hfz109_2 := blk_frozen BK189.out 2; have p103 : 0 ≤ (a1 : Int) := of_decide_eq_true pD; have q103 : (a1 : Int) < ((x190002_31.length : Int) : Int) := of_decide_eq_true pD; obtain ⟨go103, co103, eo103, gb103, gl103, cl103, HG103⟩ := Kd.R_form HO_190002.out (by omega); (first | cases eo103 | (injection eo103 with ea_ en_ ec_; (first | subst ea_ | (injection ea_ with ea_; subst ea_)); subst ec_; clear en_)); have GB103 := Aside0.mk gb103; have GG103 := Aside0.mk HG103; clear gb103 gl103 HG103; obtain ⟨hx103_0, hf103_0⟩ := Kd.R_celln 0 HO_190002.out (a1 : Int) p103 q103; replace p103 := eq_true p103; replace q103 := eq_true q103; have n_ := Aside0.mk (Kd.R_mono (ok' := (fun k_ => some k_ ≠ (.slice (some ⟨go100, 0, none⟩) x190001_31.length co100 : Value).ownBlock)) HO_190002.out (fun k_ hk => hk.2)); clear HO_190002; have HO_190002 := n_; clear n_; obtain ⟨hy110_, hz110_⟩ := Kd.R_celln 0 HO_190002.out (a1 : Int) (of_decide_eq_true pD) (of_decide_eq_true pD); have HP110 := Kd.R_putg HO_190002.out (a1 : Int) 0) | ((with_reducible refine gate_store (t := 3) (p := 117) rfl ?_); refine store_event (t := 3) (p := 117) (v := ?vo_w111) (w1 := (w108.setCell ⟨go103, (a1 : Int).toNat, none⟩ (.int .i64 0))) ?hg ?ho ?hn ?hr ?_; (case ho => rfl); (case hg => rfl); (case hn => rfl); (case hr => first | (go_simp; done) | (go_simp; rfl)); intro w111 hw; have hg : w108.grownBy w111 (some go103) := (by rw [hw]; exact HP110.2); have hp_ : Kd.R (Kd.int .i64) 3 w111 w.heap.size (fun k_ => some k_ ≠ (.slice (some ⟨go100, 0, none⟩) x190001_31.length co100 : Value).ownBlock) (.slice (some ⟨go103, 0, none⟩) x190002_31.length co103) y196 := (by rw [hw, Ny196.out]; exact HP110.1); clear HP110; have n0_ := Aside0.mk (Kd.R_after (v := (.slice (some ⟨go103, 0, none⟩) x190002_31.length co103)) (v1 := (.slice (some ⟨go103, 0, none⟩) x190002_31.length co103)) (ok := (fun _ => True)) (by (with_reducible repeat (first | apply Kd.R_alloc | apply Kd.R_drewN | apply Kd.R_drew)); exact Kd.R_mono HO_190001.out (fun _ hk => ⟨trivial, hk⟩)) hg (.inl rfl)); have n1_ := Aside0.mk (hp_); have n2_ := Aside0.mk (blk_grown (g := gb178) (pK BK178.out) hg (Kd.R_ne HO_190002.out BK178.out (by decide))); have n3_ := Aside0.mk (blk_grown (g := gb179) (pK BK179.out) hg (Kd.R_ne HO_190002.out BK179.out (by decide))); have n4_ := Aside0.mk (blk_grown (g := gb189) (pK BK189.out) hg (Kd.R_ne HO_190002.out BK189.out (by decide))); have n5_ := Aside0.mk ((by rw [hw]; exact below_set (HB.out) GB103.out : Below w.heap.size w w111)); clear HO_190001; clear HO_190002; clear BK178; clear BK179; clear BK189; clear HB; have HO_190001 := n0_; have HO_190002 := n1_; have BK178 := n2_; have BK179 := n3_; have BK189 := n4_; have HB := n5_; clear n0_ n1_ n2_ n3_ n4_ n5_; clear hg hw hp_; have hcz112_0 : w111.cell? ⟨gb189, 0, none⟩ = some (.int .i64 t182) := (blk_cell BK189.out 0).trans rfl; have hcz112_1 : w111.cell? ⟨gb189, 1, none⟩ = some (.slice (some ⟨go100, 0, none⟩) x190001_31.length co100) := (blk_cell BK189.out 1).trans rfl; have hcz112_2 : w111.cell? ⟨gb189, 2, none⟩ = some (.slice (some ⟨go103, 0, none⟩) x190002_31.length co103) := (blk_cell BK189.out 2).trans rfl; have hfz112_0 := blk_frozen BK189.out 0; have hfz112_1 := blk_frozen BK189.out 1; have hfz112_2 := blk_frozen BK189.out 2; have hnb113 := NB179_178.out; have hnc113 := NB178_179.out; have hcz114_0 : w111.cell? ⟨gb179, 0, none⟩ = some (.int .i64 x180000_31) := (blk_cell BK179.out 0).trans rfl; have hcz114_1 : w111.cell? ⟨gb179, 1, none⟩ = some (.slice none 0 0) := (blk_cell BK179.out 1).trans rfl; have hcz114_2 : w111.cell? ⟨gb179, 2, none⟩ = some (.slice none 0 0) := (blk_cell BK179.out 2).trans rfl; have hfz114_0 := blk_frozen BK179.out 0; have hfz114_1 := blk_frozen BK179.out 1; have hfz114_2 := blk_frozen BK179.out 2))
                 refine bodyPost_ret (results_ct rfl _ _ gb179 24 #[.int .i64 t182, .slice (some ⟨go100, 0, none⟩) x190001_31.length co100, .slice (some ⟨go103, 0, none⟩) x190002_31.length co103] (0, 0) _ rfl (by (with_reducible repeat (first | apply bN | apply bD | apply bA)); refine blk_put (cs := #[.int .i64 t182, .slice (some ⟨go100, 0, none⟩) x190001_31.length co100, .slice none 0 0]) ?_ 2 _ rfl; (with_reducible repeat (first | apply bN | apply bD | apply bA)); refine blk_put (cs := #[.int .i64 t182, .slice none 0 0, .slice none 0 0]) ?_ 1 _ rfl; (with_reducible repeat (first | apply bN | apply bD | apply bA)); refine blk_put (cs := #[.int .i64 x180000_31, .slice none 0 0, .slice none 0 0]) ?_ 0 _ rfl; (with_reducible repeat (first | apply bN | apply bD | apply bA)); exact BK179.out) Try.underlying24 rfl (by kernel_rfl)) rfl ?_
                 exact ⟨_, _, pE, by (with_reducible repeat (first | apply Kd.R_alloc | apply Kd.R_drewN | apply Kd.R_drew)); exact Kd.R_mono (Kd.R_far (p := ⟨gb179, 2, none⟩) (Kd.R_far (p := ⟨gb179, 1, none⟩) (Kd.R_far (p := ⟨gb179, 0, none⟩) (Kd.R_types HO_190001.out BK179.out (by decide)) (fun _ hk => hk.2) (.int .i64 t182)) (fun _ hk => hk.2) (.slice (some ⟨go100, 0, none⟩) x190001_31.length co100)) (fun _ hk => hk.2) (.slice (some ⟨go103, 0, none⟩) x190002_31.length co103)) (fun _ hk => hk.1.2), by (with_reducible repeat (first | apply Kd.R_alloc | apply Kd.R_drewN | apply Kd.R_drew)); exact Kd.R_mono (Kd.R_far (p := ⟨gb179, 2, none⟩) (Kd.R_far (p := ⟨gb179, 1, none⟩) (Kd.R_far (p := ⟨gb179, 0, none⟩) (Kd.R_types HO_190002.out BK179.out (by decide)) (fun _ hk => hk.2) (.int .i64 t182)) (fun _ hk => hk.2) (.slice (some ⟨go100, 0, none⟩) x190001_31.length co100)) (fun _ hk => hk.2) (.slice (some ⟨go103, 0, none⟩) x190002_31.length co103)) (fun _ hk => hk.1), pB3 HB.out GE178.out GE179.out GE189.out⟩
                ·rw [if_neg c102] at H
                 exact absurd H (by simp)
               ·rw [if_neg c101] at H
                have c101b0 : (a3 == 1) = false := beq_eq_false_iff_ne.mpr c101
                have c101b1 : (a3 != 1) = true := bne_iff_ne.mpr c101
                simp only [Option.some.injEq, Prod.mk.injEq] at H
                obtain ⟨rfl, rfl, rfl, rfl⟩ := H
                have hnb115 := NB189_178.out
                have hnc115 := NB178_189.out
                have hnb116 := NB189_179.out
                have hnc116 := NB179_189.out
                have hcz117_0 : wc.cell? ⟨gb189, 0, none⟩ = some (.int .i64 t182) := (blk_cell BK189.out 0).trans rfl
                have hcz117_1 : wc.cell? ⟨gb189, 1, none⟩ = some (u190001) := (blk_cell BK189.out 1).trans rfl
                have hcz117_2 : wc.cell? ⟨gb189, 2, none⟩ = some (u190002) := (blk_cell BK189.out 2).trans rfl
                have hfz117_0 := blk_frozen BK189.out 0
                have hfz117_1 := blk_frozen BK189.out 1
                have hfz117_2 := blk_frozen BK189.out 2
                have p100 : 0 ≤ (a1 : Int) := of_decide_eq_true pD
                have q100 : (a1 : Int) < ((x190001_31.length : Int) : Int) := of_decide_eq_true pD
                obtain ⟨go100, co100, eo100, gb100, gl100, cl100, HG100⟩ := Kd.R_form HO_190001.out (by omega)
                (first | cases eo100 | (injection eo100 with ea_ en_ ec_; (first | subst ea_ | (injection ea_ with ea_; subst ea_)); subst ec_; clear en_))
                have GB100 := Aside0.mk gb100
                have GG100 := Aside0.mk HG100
                clear gb100 gl100 HG100
                obtain ⟨hx100_0, hf100_0⟩ := Kd.R_celln 0 HO_190001.out (a1 : Int) p100 q100
                replace p100 := eq_true p100
                replace q100 := eq_true q100
                have HP118 := Kd.R_putg HO_190001.out (a1 : Int) a3
                go_wp2_with (first | ((with_reducible refine gate_store (t := 3) (p := 111) rfl ?_); refine store_event (t := 3) (p := 111) (v := ?vo_w119) (w1 := (wc.setCell ⟨go100, (a1 : Int).toNat, none⟩ (.int .i64 a3))) ?hg ?ho ?hn ?hr ?_; (case ho => rfl); (case hg => rfl); (case hn => rfl); (case hr => first | (go_simp; done) | (go_simp; rfl)); intro w119 hw; have hg : wc.grownBy w119 (some go100) := (by rw [hw]; exact HP118.2); have hp_ : Kd.R (Kd.int .i64) 3 w119 w.heap.size (fun k_ => some k_ ≠ (u190002 : Value).ownBlock) (.slice (some ⟨go100, 0, none⟩) x190001_31.length co100) y195 := (by rw [hw, Ny195.out]; exact HP118.1); clear HP118; have n0_ := Aside0.mk (hp_); have n1_ := Aside0.mk (Kd.R_after (v := (.slice (some ⟨go100, 0, none⟩) x190001_31.length co100)) (v1 := (.slice (some ⟨go100, 0, none⟩) x190001_31.length co100)) (ok := (fun _ => True)) (by (with_reducible repeat (first | apply Kd.R_alloc | apply Kd.R_drewN | apply Kd.R_drew)); exact Kd.R_mono HO_190002.out (fun _ hk => ⟨trivial, hk⟩)) hg (.inl rfl)); have n2_ := Aside0.mk (blk_grown (g := gb178) (pK BK178.out) hg (Kd.R_ne HO_190001.out BK178.out (by decide))); have n3_ := Aside0.mk (blk_grown (g := gb179) (pK BK179.out) hg (Kd.R_ne HO_190001.out BK179.out (by decide))); have n4_ := Aside0.mk (blk_grown (g := gb189) (pK BK189.out) hg (Kd.R_ne HO_190001.out BK189.out (by decide))); have n5_ := Aside0.mk ((by rw [hw]; exact below_set (HB.out) GB100.out : Below w.heap.size w w119)); clear HO_190001; clear HO_190002; clear BK178; clear BK179; clear BK189; clear HB; have HO_190001 := n0_; have HO_190002 := n1_; have BK178 := n2_; have BK179 := n3_; have BK189 := n4_; have HB := n5_; clear n0_ n1_ n2_ n3_ n4_ n5_; clear hg hw hp_; have hcz120_0 : w119.cell? ⟨gb189, 0, none⟩ = some (.int .i64 t182) := (blk_cell BK189.out 0).trans rfl; have hcz120_1 : w119.cell? ⟨gb189, 1, none⟩ = some (.slice (some ⟨go100, 0, none⟩) x190001_31.length co100) := (blk_cell BK189.out 1).trans rfl; have hcz120_2 : w119.cell? ⟨gb189, 2, none⟩ = some (u190002) := (blk_cell BK189.out 2).trans rfl; have hfz120_0 := blk_frozen BK189.out 0; have hfz120_1 := blk_frozen BK189.out 1; have hfz120_2 := blk_frozen BK189.out 2; have hnb121 := NB179_178.out; have hnc121 := NB178_179.out; have hcz122_0 : w119.cell? ⟨gb179, 0, none⟩ = some (.int .i64 x180000_31) := (blk_cell BK179.out 0).trans rfl; have hcz122_1 : w119.cell? ⟨gb179, 1, none⟩ = some (.slice none 0 0) := (blk_cell BK179.out 1).trans rfl; have hcz122_2 : w119.cell? ⟨gb179, 2, none⟩ = some (.slice none 0 0) := (blk_cell BK179.out 2).trans rfl; have hfz122_0 := blk_frozen BK179.out 0; have hfz122_1 := blk_frozen BK179.out 1; have hfz122_2 := blk_frozen BK179.out 2; obtain ⟨Ao123, co123, eo123⟩ := Kd.R_slice HO_190002.out; subst eo123))
                refine bodyPost_ret (results_ct rfl _ _ gb179 24 #[.int .i64 t182, .slice (some ⟨go100, 0, none⟩) x190001_31.length co100, .slice Ao123 x190002_31.length co123] (0, 0) _ rfl (by (with_reducible repeat (first | apply bN | apply bD | apply bA)); refine blk_put (cs := #[.int .i64 t182, .slice (some ⟨go100, 0, none⟩) x190001_31.length co100, .slice none 0 0]) ?_ 2 _ rfl; (with_reducible repeat (first | apply bN | apply bD | apply bA)); refine blk_put (cs := #[.int .i64 t182, .slice none 0 0, .slice none 0 0]) ?_ 1 _ rfl; (with_reducible repeat (first | apply bN | apply bD | apply bA)); refine blk_put (cs := #[.int .i64 x180000_31, .slice none 0 0, .slice none 0 0]) ?_ 0 _ rfl; (with_reducible repeat (first | apply bN | apply bD | apply bA)); exact BK179.out) Try.underlying24 rfl (by kernel_rfl)) rfl ?_
                exact ⟨_, _, pE, by (with_reducible repeat (first | apply Kd.R_alloc | apply Kd.R_drewN | apply Kd.R_drew)); exact Kd.R_mono (Kd.R_far (p := ⟨gb179, 2, none⟩) (Kd.R_far (p := ⟨gb179, 1, none⟩) (Kd.R_far (p := ⟨gb179, 0, none⟩) (Kd.R_types HO_190001.out BK179.out (by decide)) (fun _ hk => hk.2) (.int .i64 t182)) (fun _ hk => hk.2) (.slice (some ⟨go100, 0, none⟩) x190001_31.length co100)) (fun _ hk => hk.2) (.slice Ao123 x190002_31.length co123)) (fun _ hk => hk.1), by (with_reducible repeat (first | apply Kd.R_alloc | apply Kd.R_drewN | apply Kd.R_drew)); exact Kd.R_mono (Kd.R_far (p := ⟨gb179, 2, none⟩) (Kd.R_far (p := ⟨gb179, 1, none⟩) (Kd.R_far (p := ⟨gb179, 0, none⟩) (Kd.R_types HO_190002.out BK179.out (by decide)) (fun _ hk => hk.2) (.int .i64 t182)) (fun _ hk => hk.2) (.slice (some ⟨go100, 0, none⟩) x190001_31.length co100)) (fun _ hk => hk.2) (.slice Ao123 x190002_31.length co123)) (fun _ hk => hk.1.2), pB3 HB.out GE178.out GE179.out GE189.out⟩
              ·rw [if_neg c99] at H
               exact absurd H (by simp)
             ·rw [if_neg c98] at H
              exact absurd H (by simp)
      ·rw [if_neg c21] at H
       exact absurd H (by simp)
     ·rw [if_neg c20] at H
      exact absurd H (by simp)
 ·replace c7 := Bool.eq_false_iff.mpr c7
  subst c7
  have H1 : (some (0, ([] : List Int), ([] : List Int), 1)) = some (r1, r2, r3, r4) := by rw [if_neg (show ¬ (false = true) by decide)] at H; exact H
  clear H
  have H := H1
  clear H1
  simp only [Option.some.injEq, Prod.mk.injEq] at H
  obtain ⟨rfl, rfl, rfl, rfl⟩ := H
  go_enter Try.func37, Try.ntmps37
  go_wp2_with (first | ((with_reducible refine gate_dst (N := 5) rfl ?_); (try (refine gate_guard (by rfl) ?_; dsimp only)); refine box_event ?hg (N := 5) ?hd (cs := #[.int .i64 a0_0, .slice A0_1 l0_1.length c0_1, .slice A0_2 l0_2.length c0_2]) (t := 24) ?hr ?_; (case hd => rfl); (case hg => rfl); (case hr => first | (go_simp; done) | (go_simp; rfl)); intro gb178 hg w124 hbox hb; have n0_ := Aside0.mk (below_step (pB HB.out) hb); have n1_ := Aside0.mk (hbox); have n2_ := Aside0.mk ((by rw [hg]; exact (below_size (pB HB.out)) : w.heap.size ≤ gb178)); have n3_ := Aside0.mk ((by rw [hg]; exact (below_size (pB HB.out)) : w.heap.size ≤ gb178)); clear HB; have HB := n0_; have BK178 := n1_; have GW178 := n2_; have GE178 := n3_; clear n0_ n1_ n2_ n3_; clear hb hbox hg) | ((with_reducible refine gate_dst (N := 10) rfl ?_); (try (refine gate_guard (by rfl) ?_; dsimp only)); refine box_event ?hg (N := 10) ?hd (cs := #[.int .i64 0, .slice none 0 0, .slice none 0 0]) (t := 24) ?hr ?_; (case hd => rfl); (case hg => rfl); (case hr => first | (go_simp; done) | (go_simp; rfl)); intro gb179 hg w125 hbox hb; have n0_ := Aside0.mk (blk_below (g := gb178) (pK BK178.out) hb); have n1_ := Aside0.mk (below_step (pB1 HB.out GE178.out) hb); have n2_ := Aside0.mk (hbox); have n3_ := Aside0.mk ((by rw [hg]; exact (below_size (pB1 HB.out GE178.out)) : w.heap.size ≤ gb179)); have n4_ := Aside0.mk ((by rw [hg]; exact (below_size (pB1 HB.out GE178.out)) : w.heap.size ≤ gb179)); have n5_ := Aside0.mk ((by rw [hg]; exact Nat.ne_of_lt (blk_lt (g := gb178) (pK BK178.out)) : gb178 ≠ gb179)); have n6_ := Aside0.mk ((by rw [hg]; exact Nat.ne_of_gt (blk_lt (g := gb178) (pK BK178.out)) : gb179 ≠ gb178)); clear BK178; clear HB; have BK178 := n0_; have HB := n1_; have BK179 := n2_; have GW179 := n3_; have GE179 := n4_; have NB178_179 := n5_; have NB179_178 := n6_; clear n0_ n1_ n2_ n3_ n4_ n5_ n6_; clear hb hbox hg; have hnb126 := NB178_179.out; have hnc126 := NB179_178.out; have hcz127_0 : w125.cell? ⟨gb178, 0, none⟩ = some (.int .i64 a0_0) := (blk_cell BK178.out 0).trans rfl; have hcz127_1 : w125.cell? ⟨gb178, 1, none⟩ = some (.slice A0_1 l0_1.length c0_1) := (blk_cell BK178.out 1).trans rfl; have hcz127_2 : w125.cell? ⟨gb178, 2, none⟩ = some (.slice A0_2 l0_2.length c0_2) := (blk_cell BK178.out 2).trans rfl; have hfz127_0 := blk_frozen BK178.out 0; have hfz127_1 := blk_frozen BK178.out 1; have hfz127_2 := blk_frozen BK178.out 2) | ((with_reducible refine gate_callee (f := 39) rfl ?_); refine goesL_ (some 16) rfl rfl Try.func39 (by kernel_rfl) rfl #[.agg #[.int .i64 a0_0, .slice A0_1 l0_1.length c0_1, .slice A0_2 l0_2.length c0_2]] rfl pA ?_; (with_reducible refine (view_right.calls k a0_0 _ _ l0_1 _ _ l0_2 false _ ?side1 ?side2 ?side3 ?side4 A6.out).mono ?_); (case side1 => exact pC (Kd.C_below HR0_1.out HB.out)); (case side2 => exact HC0_1.out); (case side3 => exact pC (Kd.C_below HR0_2.out HB.out)); (case side4 => exact HC0_2.out); rintro e w128 ⟨rfl, hb⟩; refine ⟨_, rfl, ?_⟩; have n0_ := Aside0.mk (blk_below (g := gb178) (pK BK178.out) hb); have n1_ := Aside0.mk (blk_below (g := gb179) (pK BK179.out) hb); have n2_ := Aside0.mk (below_step (pB2 HB.out GE178.out GE179.out) hb); clear BK178; clear BK179; clear HB; have BK178 := n0_; have BK179 := n1_; have HB := n2_; clear n0_ n1_ n2_; (try clear hb); (try clear hb2); (try clear hk); (try clear hi); have hcz129_0 : w128.cell? ⟨gb179, 0, none⟩ = some (.int .i64 0) := (blk_cell BK179.out 0).trans rfl; have hcz129_1 : w128.cell? ⟨gb179, 1, none⟩ = some (.slice none 0 0) := (blk_cell BK179.out 1).trans rfl; have hcz129_2 : w128.cell? ⟨gb179, 2, none⟩ = some (.slice none 0 0) := (blk_cell BK179.out 2).trans rfl; have hfz129_0 := blk_frozen BK179.out 0; have hfz129_1 := blk_frozen BK179.out 1; have hfz129_2 := blk_frozen BK179.out 2))
  refine bodyPost_ret (results_ct rfl _ _ gb179 24 #[.int .i64 0, .slice none 0 0, .slice none 0 0] (0, 0) _ rfl (by (with_reducible repeat (first | apply bN | apply bD | apply bA)); refine blk_put (cs := #[.int .i64 0, .slice none 0 0, .slice none 0 0]) ?_ 2 _ rfl; (with_reducible repeat (first | apply bN | apply bD | apply bA)); refine blk_put (cs := #[.int .i64 0, .slice none 0 0, .slice none 0 0]) ?_ 1 _ rfl; (with_reducible repeat (first | apply bN | apply bD | apply bA)); refine blk_put (cs := #[.int .i64 0, .slice none 0 0, .slice none 0 0]) ?_ 0 _ rfl; (with_reducible repeat (first | apply bN | apply bD | apply bA)); exact BK179.out) Try.underlying24 rfl (by kernel_rfl)) rfl ?_
  exact ⟨_, _, pE, by first | exact Kd.R_nil _ _ _ _ _ | exact Kd.N_nil _ _ _ _ _ | exact Kd.V_nil _ _ _ _ _ | exact Kd.Q_nil _ _ _ _ _ | exact Kd.S_nil _ _ _ _ _, by first | exact Kd.R_nil _ _ _ _ _ | exact Kd.N_nil _ _ _ _ _ | exact Kd.V_nil _ _ _ _ _ | exact Kd.Q_nil _ _ _ _ _ | exact Kd.S_nil _ _ _ _ _, pB2 HB.out GE178.out GE179.out⟩

end Go.Proofs.Ytjbpekblcecneaa.Q
