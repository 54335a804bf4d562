-- Written by this session's program wip/gprint.py, which drives the kit's print.py and puts the session's own texts in for some functions.
import Derived.Test.YtjbpekblcecneaaQx0
import Derived.Test.YtjbpekblcecneaaQxfLaw22Back
import Derived.Test.YtjbpekblcecneaaQxfLaw22Many
import Derived.Test.YtjbpekblcecneaaQxfLaw22SameT
import Derived.Test.YtjbpekblcecneaaQxfPlainInts
import Derived.Test.YtjbpekblcecneaaQxfRef22Cells
import Derived.Test.YtjbpekblcecneaaQxfRef22Right
import Derived.Test.YtjbpekblcecneaaQxfViewFlip
import Derived.Test.YtjbpekblcecneaaQxfViewPermute
import Derived.Test.YtjbpekblcecneaaQxfViewRight
namespace Go.Proofs.Ytjbpekblcecneaa.Q
open Go.RowKit Go.Proofs.YtjbpekblcecneaaW.PrintWords Go.Proofs.YtjbpekblcecneaaW.PrintLast Go.Proofs.YtjbpekblcecneaaW.PrintMore
attribute [local go_sem] max2_int min2_int max_two min_two max_three min_three max_four min_four   -- for this text's walks alone
set_option linter.unusedVariables false
set_option linter.unusedSimpArgs false

/-! ### gradinelaw22_ViewTwice: function 4 -/
mutual
def gradinelaw22_ViewTwice.j0 : Nat → List Int → Int → Bool → Int → List Int → List Int → Option (Bool)
 | 0, _, _, _, _, _, _ => none
 | k + 1, x1, x2, x29, x354000, x354001, x354002 => if x29 = true then ((gradinelaw22_same.f).bind fun t356 => (some t356)) else ((gradineref22_Cells.f k x354000 x354001 x354002 64).bind fun t357 => ((view_Flip.f k x354000 x354001 x354002 x2).bind fun bt360 => ((view_Flip.f k bt360.1 bt360.2.1 bt360.2.2.1 x2).bind fun bt369 => (if bt360.2.2.2 = 0 then (if bt369.2.2.2 = 0 then ((gradineref22_Cells.f k bt369.1 bt369.2.1 bt369.2.2.1 64).bind fun t378 => ((gradineplain_Ints.f k t378 t357).bind fun t381 => (gradinelaw22_ViewTwice.j1 k x1 t357 bt360.2.2.2 (!t381) x354000 x354001 x354002 bt360.1 bt360.2.1 bt360.2.2.1))) else (gradinelaw22_ViewTwice.j1 k x1 t357 bt360.2.2.2 true x354000 x354001 x354002 bt360.1 bt360.2.1 bt360.2.2.1)) else (gradinelaw22_ViewTwice.j1 k x1 t357 bt360.2.2.2 false x354000 x354001 x354002 bt360.1 bt360.2.1 bt360.2.2.1)))))
def gradinelaw22_ViewTwice.j1 : Nat → List Int → List Int → Int → Bool → Int → List Int → List Int → Int → List Int → List Int → Option (Bool)
 | 0, _, _, _, _, _, _, _, _, _, _ => none
 | k + 1, x1, x7, x9, x57, x354000, x354001, x354002, x369000, x369001, x369002 => if x57 = true then (some false) else ((view_Permute.f k x354000 x354001 x354002 x1).bind fun bt382 => ((gradinelaw22_back.f k x1).bind fun t391 => ((view_Permute.f k bt382.1 bt382.2.1 bt382.2.2.1 t391).bind fun bt394 => (if bt382.2.2.2 = 0 then (if bt394.2.2.2 = 0 then ((gradineref22_Cells.f k bt394.1 bt394.2.1 bt394.2.2.1 64).bind fun t403 => ((gradineplain_Ints.f k t403 x7).bind fun t406 => (gradinelaw22_ViewTwice.j2 k x7 x9 bt382.2.2.2 (!t406) x369000 x369001 x369002 bt382.1 bt382.2.1 bt382.2.2.1))) else (gradinelaw22_ViewTwice.j2 k x7 x9 bt382.2.2.2 true x369000 x369001 x369002 bt382.1 bt382.2.1 bt382.2.2.1)) else (gradinelaw22_ViewTwice.j2 k x7 x9 bt382.2.2.2 false x369000 x369001 x369002 bt382.1 bt382.2.1 bt382.2.2.1)))))
def gradinelaw22_ViewTwice.j2 : Nat → List Int → Int → Int → Bool → Int → List Int → List Int → Int → List Int → List Int → Option (Bool)
 | 0, _, _, _, _, _, _, _, _, _, _ => none
 | k + 1, x7, x9, x13, x83, x369000, x369001, x369002, x391000, x391001, x391002 => if x83 = true then (some false) else (gradinelaw22_ViewTwice.l0 k x7 x9 x13 0 (x7.length : Int) 0 x369000 x369001 x369002 x391000 x391001 x391002)
def gradinelaw22_ViewTwice.l0 : Nat → List Int → Int → Int → Int → Int → Int → Int → List Int → List Int → Int → List Int → List Int → Option (Bool)
 | 0, _, _, _, _, _, _, _, _, _, _, _, _ => none
 | k + 1, x7, x9, x13, x16, x85, x86, x369000, x369001, x369002, x391000, x391001, x391002 => if x86 < x85 then (if 0 ≤ x86 then (if x86 < (x7.length : Int) then (gradinelaw22_ViewTwice.l0 k x7 x9 x13 (mx x16 (wrap64 ((rd x7 x86) + 1))) x85 (wrap64 (x86 + 1)) x369000 x369001 x369002 x391000 x391001 x391002) else (none)) else (none)) else (if x9 = 0 then ((view_Right.f k x369000 x369001 x369002 x16).bind fun t408 => (if t408 = true then (if x13 = 0 then ((view_Right.f k x391000 x391001 x391002 x16).bind fun t409 => (if t409 = true then ((gradinelaw22_same.f).bind fun t410 => (some t410)) else (some false))) else ((gradinelaw22_same.f).bind fun t411 => (some t411))) else (some false))) else (if x13 = 0 then ((view_Right.f k x391000 x391001 x391002 x16).bind fun t412 => (if t412 = true then ((gradinelaw22_same.f).bind fun t413 => (some t413)) else (some false))) else ((gradinelaw22_same.f).bind fun t414 => (some t414))))
end
def gradinelaw22_ViewTwice.f (k : Nat) (a0_0 : Int) (l0_1 : List Int) (l0_2 : List Int) (l1 : List Int) (a2 : Int) : Option (Bool) := (gradinelaw22_Many.f a0_0 l0_1 l0_2).bind fun t354 => (if t354 = true then (gradinelaw22_ViewTwice.j0 k l1 a2 true a0_0 l0_1 l0_2) else (if (l1.length : Int) > 20 then (gradinelaw22_ViewTwice.j0 k l1 a2 true a0_0 l0_1 l0_2) else ((gradineref22_Right.f k a0_0 l0_1 l0_2 64).bind fun t355 => (gradinelaw22_ViewTwice.j0 k l1 a2 (!t355) a0_0 l0_1 l0_2))))
def gradinelaw22_ViewTwice.T9 : Bool × List (List Nat × List Nat) := (true, [([], []), ([], []), ([1], [1]), ([0, 2, 2], [0, 2]), ([3], [3]), ([4], [4]), ([4], [4]), ([], []), ([7, 5, 3, 0, 1, 2, 3, 4, 5, 7], [5, 7]), ([6, 8, 0, 1, 2, 3, 4, 5, 6, 7, 8], [6])])
def gradinelaw22_ViewTwice.B9 : List Nat := [0, 0, 2, 7, 15, 31, 31, 0, 191, 511]
theorem gradinelaw22_ViewTwice.tab9 : rtab .any (opsOf Try.f4 9) = gradinelaw22_ViewTwice.T9 := by kernel_rfl
theorem gradinelaw22_ViewTwice.bits9 : waitsOk gradinelaw22_ViewTwice.T9.2 gradinelaw22_ViewTwice.B9 = true := by kernel_rfl
set_option maxHeartbeats 8000000 in
set_option maxRecDepth 100000 in
theorem gradinelaw22_ViewTwice.calls (k : Nat) (a0_0 : Int) (A0_1 : Option Addr) (c0_1 : Nat) (l0_1 : List Int) (A0_2 : Option Addr) (c0_2 : Nat) (l0_2 : List Int) (A1 : Option Addr) (c1 : Nat) (l1 : List Int) (a2 : Int) (w : World) (hr0_1 : Kd.C (Kd.int .i64) w A0_1 l0_1.length l0_1) (hc0_1 : l0_1.length ≤ c0_1) (hr0_2 : Kd.C (Kd.int .i64) w A0_2 l0_2.length l0_2) (hc0_2 : l0_2.length ≤ c0_2) (hr1 : Kd.C (Kd.int .i64) w A1 l1.length l1) (hc1 : l1.length ≤ c1) (h : gradinelaw22_ViewTwice.f k a0_0 l0_1 l0_2 l1 a2 = some true) :
  Calls Try.prog 4 #[.agg #[.int .i64 a0_0, .slice A0_1 l0_1.length c0_1, .slice A0_2 l0_2.length c0_2], .slice A1 l1.length c1, .int .i64 a2] w fun e w' => e = .returned (.bool true) ∧ Below w.heap.size w w' := by
 have hu24 := Try.underlying24
 have HR0_1 := Aside0.mk hr0_1
 have HC0_1 := Aside0.mk hc0_1
 clear hr0_1 hc0_1
 have HR0_2 := Aside0.mk hr0_2
 have HC0_2 := Aside0.mk hc0_2
 clear hr0_2 hc0_2
 have HR1 := Aside0.mk hr1
 have HC1 := Aside0.mk hc1
 clear hr1 hc1
 have HB := Aside0.mk (Below.refl w.heap.size w)
 have H : ((gradinelaw22_Many.f a0_0 l0_1 l0_2).bind fun t354 => (if t354 = true then (gradinelaw22_ViewTwice.j0 k l1 a2 true a0_0 l0_1 l0_2) else (if (l1.length : Int) > 20 then (gradinelaw22_ViewTwice.j0 k l1 a2 true a0_0 l0_1 l0_2) else ((gradineref22_Right.f k a0_0 l0_1 l0_2 64).bind fun t355 => (gradinelaw22_ViewTwice.j0 k l1 a2 (!t355) a0_0 l0_1 l0_2))))) = some true := h
 clear h
 have HC4 := Aside0.mk H
 clear H
 go_enter Try.func4, Try.ntmps4
 go_upto_region 1 with (first | ((with_reducible refine gate_dst (N := 3) rfl ?_); (try (refine gate_guard (by rfl) ?_; dsimp only)); refine box_event ?hg (N := 3) ?hd (cs := #[.int .i64 a0_0, .slice A0_1 l0_1.length c0_1, .slice A0_2 l0_2.length c0_2]) (t := 24) ?hr ?_; (case hd => rfl); (case hg => rfl); (case hr => first | (go_simp; done) | (go_simp; rfl)); intro gb353 hg w5 hbox hb; have n0_ := Aside0.mk (below_step (pB HB.out) hb); have n1_ := Aside0.mk (hbox); have n2_ := Aside0.mk ((by rw [hg]; exact (below_size (pB HB.out)) : w.heap.size ≤ gb353)); have n3_ := Aside0.mk ((by rw [hg]; exact (below_size (pB HB.out)) : w.heap.size ≤ gb353)); clear HB; have HB := n0_; have BK353 := n1_; have GW353 := n2_; have GE353 := n3_; clear n0_ n1_ n2_ n3_; clear hb hbox hg))
 (try simp only [Act.put, List.setIfInBounds_toArray, List.set_cons_zero, List.set_cons_succ])
 go_cut [29] (fun v29 wc => ∃ (kq : Nat) (x29_3 : Bool), v29 = .bool x29_3 ∧ Aside0 (gradinelaw22_ViewTwice.j0 kq l1 a2 x29_3 a0_0 l0_1 l0_2 = some true) ∧ Aside0 (kq ≤ k) ∧ Aside0 (wc.heap[gb353]? = some (.cells #[.int .i64 a0_0, (.slice A0_1 l0_1.length c0_1), (.slice A0_2 l0_2.length c0_2)] 24 (0, 0))) ∧ Aside0 (Below w.heap.size w wc))
 case first =>
  have H := HC4.out
  clear HC4
  replace H := Option.bind_eq_some_iff.mp H
  obtain ⟨t354, A60, H⟩ := H
  replace H : (if t354 = true then (gradinelaw22_ViewTwice.j0 k l1 a2 true a0_0 l0_1 l0_2) else (if (l1.length : Int) > 20 then (gradinelaw22_ViewTwice.j0 k l1 a2 true a0_0 l0_1 l0_2) else ((gradineref22_Right.f k a0_0 l0_1 l0_2 64).bind fun t355 => (gradinelaw22_ViewTwice.j0 k l1 a2 (!t355) a0_0 l0_1 l0_2)))) = some true := H
  have A6 := Aside0.mk A60
  clear A60
  by_cases c7 : t354 = true
  ·subst c7
   have H1 : (gradinelaw22_ViewTwice.j0 k l1 a2 true a0_0 l0_1 l0_2) = some true := by rw [if_pos rfl] at H; exact H
   clear H
   have H := H1
   clear H1
   have H' := Aside0.mk H
   clear H
   have hcz8_0 : w5.cell? ⟨gb353, 0, none⟩ = some (.int .i64 a0_0) := (blk_cell BK353.out 0).trans rfl
   have hcz8_1 : w5.cell? ⟨gb353, 1, none⟩ = some (.slice A0_1 l0_1.length c0_1) := (blk_cell BK353.out 1).trans rfl
   have hcz8_2 : w5.cell? ⟨gb353, 2, none⟩ = some (.slice A0_2 l0_2.length c0_2) := (blk_cell BK353.out 2).trans rfl
   have hfz8_0 := blk_frozen BK353.out 0
   have hfz8_1 := blk_frozen BK353.out 1
   have hfz8_2 := blk_frozen BK353.out 2
   go_wp2_with (first | ((with_reducible refine gate_callee (f := 8) rfl ?_); refine goesL_ (some 19) rfl rfl Try.func8 (by kernel_rfl) rfl #[.agg #[.int .i64 a0_0, .slice A0_1 l0_1.length c0_1, .slice A0_2 l0_2.length c0_2]] rfl pA ?_; (with_reducible refine (gradinelaw22_Many.calls a0_0 _ _ l0_1 _ _ l0_2 true _ ?side1 ?side2 ?side3 ?side4 A6.out).mono ?_); (case side1 => exact pC (Kd.C_below HR0_1.out HB.out)); (case side2 => exact HC0_1.out); (case side3 => exact pC (Kd.C_below HR0_2.out HB.out)); (case side4 => exact HC0_2.out); rintro e w9 ⟨rfl, hb⟩; refine ⟨_, rfl, ?_⟩; have n0_ := Aside0.mk (blk_below (g := gb353) (pK BK353.out) hb); have n1_ := Aside0.mk (below_step (pB1 HB.out GE353.out) hb); clear BK353; clear HB; have BK353 := n0_; have HB := n1_; clear n0_ n1_; (try clear hb); (try clear hb2); (try clear hk); (try clear hi)))
   go_meet
   case rel => exact ⟨_, (true), (pF), H', ⟨by first | omega | exact Nat.le_refl _⟩, ⟨by (with_reducible repeat (first | apply bN | apply bD | apply bA)); exact BK353.out⟩, ⟨pB1 HB.out GE353.out⟩⟩
  ·replace c7 := Bool.eq_false_iff.mpr c7
   subst c7
   have H1 : (if (l1.length : Int) > 20 then (gradinelaw22_ViewTwice.j0 k l1 a2 true a0_0 l0_1 l0_2) else ((gradineref22_Right.f k a0_0 l0_1 l0_2 64).bind fun t355 => (gradinelaw22_ViewTwice.j0 k l1 a2 (!t355) a0_0 l0_1 l0_2))) = some true := by rw [if_neg (show ¬ (false = true) by decide)] at H; exact H
   clear H
   have H := H1
   clear H1
   by_cases c10 : (l1.length : Int) > 20
   ·rw [if_pos c10] at H
    have c10b0 : decide (20 < (l1.length : Int)) = true := decide_eq_true c10
    have c10b1 : decide (20 < l1.length) = true := decide_eq_true (by omega)
    clear c10
    (first | rw [c10b0] | (simp only [i64_w, i32_w]; rw [c10b0]) | skip)
    have H' := Aside0.mk H
    clear H
    have hcz11_0 : w5.cell? ⟨gb353, 0, none⟩ = some (.int .i64 a0_0) := (blk_cell BK353.out 0).trans rfl
    have hcz11_1 : w5.cell? ⟨gb353, 1, none⟩ = some (.slice A0_1 l0_1.length c0_1) := (blk_cell BK353.out 1).trans rfl
    have hcz11_2 : w5.cell? ⟨gb353, 2, none⟩ = some (.slice A0_2 l0_2.length c0_2) := (blk_cell BK353.out 2).trans rfl
    have hfz11_0 := blk_frozen BK353.out 0
    have hfz11_1 := blk_frozen BK353.out 1
    have hfz11_2 := blk_frozen BK353.out 2
    go_wp2_with (first | ((with_reducible refine gate_callee (f := 8) rfl ?_); refine goesL_ (some 19) rfl rfl Try.func8 (by kernel_rfl) rfl #[.agg #[.int .i64 a0_0, .slice A0_1 l0_1.length c0_1, .slice A0_2 l0_2.length c0_2]] rfl pA ?_; (with_reducible refine (gradinelaw22_Many.calls a0_0 _ _ l0_1 _ _ l0_2 false _ ?side1 ?side2 ?side3 ?side4 A6.out).mono ?_); (case side1 => exact pC (Kd.C_below HR0_1.out HB.out)); (case side2 => exact HC0_1.out); (case side3 => exact pC (Kd.C_below HR0_2.out HB.out)); (case side4 => exact HC0_2.out); rintro e w12 ⟨rfl, hb⟩; refine ⟨_, rfl, ?_⟩; have n0_ := Aside0.mk (blk_below (g := gb353) (pK BK353.out) hb); have n1_ := Aside0.mk (below_step (pB1 HB.out GE353.out) hb); clear BK353; clear HB; have BK353 := n0_; have HB := n1_; clear n0_ n1_; (try clear hb); (try clear hb2); (try clear hk); (try clear hi)))
    go_meet
    case rel => exact ⟨_, (true), (pF), H', ⟨by first | omega | exact Nat.le_refl _⟩, ⟨by (with_reducible repeat (first | apply bN | apply bD | apply bA)); exact BK353.out⟩, ⟨pB1 HB.out GE353.out⟩⟩
   ·rw [if_neg c10] at H
    have c10b0 : decide (20 < (l1.length : Int)) = false := decide_eq_false c10
    have c10b1 : decide (20 < l1.length) = false := decide_eq_false (by omega)
    clear c10
    (first | rw [c10b0] | (simp only [i64_w, i32_w]; rw [c10b0]) | skip)
    replace H := Option.bind_eq_some_iff.mp H
    obtain ⟨t355, A130, H⟩ := H
    replace H : (gradinelaw22_ViewTwice.j0 k l1 a2 (!t355) a0_0 l0_1 l0_2) = some true := H
    have A13 := Aside0.mk A130
    clear A130
    have H' := Aside0.mk H
    clear H
    have hcz14_0 : w5.cell? ⟨gb353, 0, none⟩ = some (.int .i64 a0_0) := (blk_cell BK353.out 0).trans rfl
    have hcz14_1 : w5.cell? ⟨gb353, 1, none⟩ = some (.slice A0_1 l0_1.length c0_1) := (blk_cell BK353.out 1).trans rfl
    have hcz14_2 : w5.cell? ⟨gb353, 2, none⟩ = some (.slice A0_2 l0_2.length c0_2) := (blk_cell BK353.out 2).trans rfl
    have hfz14_0 := blk_frozen BK353.out 0
    have hfz14_1 := blk_frozen BK353.out 1
    have hfz14_2 := blk_frozen BK353.out 2
    go_wp2_with (first | ((with_reducible refine gate_callee (f := 8) rfl ?_); refine goesL_ (some 19) rfl rfl Try.func8 (by kernel_rfl) rfl #[.agg #[.int .i64 a0_0, .slice A0_1 l0_1.length c0_1, .slice A0_2 l0_2.length c0_2]] rfl pA ?_; (with_reducible refine (gradinelaw22_Many.calls a0_0 _ _ l0_1 _ _ l0_2 false _ ?side1 ?side2 ?side3 ?side4 A6.out).mono ?_); (case side1 => exact pC (Kd.C_below HR0_1.out HB.out)); (case side2 => exact HC0_1.out); (case side3 => exact pC (Kd.C_below HR0_2.out HB.out)); (case side4 => exact HC0_2.out); rintro e w15 ⟨rfl, hb⟩; refine ⟨_, rfl, ?_⟩; have n0_ := Aside0.mk (blk_below (g := gb353) (pK BK353.out) hb); have n1_ := Aside0.mk (below_step (pB1 HB.out GE353.out) hb); clear BK353; clear HB; have BK353 := n0_; have HB := n1_; clear n0_ n1_; (try clear hb); (try clear hb2); (try clear hk); (try clear hi); have hcz16_0 : w15.cell? ⟨gb353, 0, none⟩ = some (.int .i64 a0_0) := (blk_cell BK353.out 0).trans rfl; have hcz16_1 : w15.cell? ⟨gb353, 1, none⟩ = some (.slice A0_1 l0_1.length c0_1) := (blk_cell BK353.out 1).trans rfl; have hcz16_2 : w15.cell? ⟨gb353, 2, none⟩ = some (.slice A0_2 l0_2.length c0_2) := (blk_cell BK353.out 2).trans rfl; have hfz16_0 := blk_frozen BK353.out 0; have hfz16_1 := blk_frozen BK353.out 1; have hfz16_2 := blk_frozen BK353.out 2) | (go_at_call 13; (with_reducible refine (gradineref22_Right.calls k a0_0 _ _ l0_1 _ _ l0_2 64 t355 _ ?side1 ?side2 ?side3 ?side4 A13.out).mono ?_); (case side1 => exact pC (Kd.C_below HR0_1.out HB.out)); (case side2 => exact HC0_1.out); (case side3 => exact pC (Kd.C_below HR0_2.out HB.out)); (case side4 => exact HC0_2.out); rintro e w17 ⟨rfl, hb⟩; have n0_ := Aside0.mk (blk_below (g := gb353) (pK BK353.out) hb); have n1_ := Aside0.mk (below_step (pB1 HB.out GE353.out) hb); clear BK353; clear HB; have BK353 := n0_; have HB := n1_; clear n0_ n1_; (try clear hb); (try clear hb2); (try clear hk); (try clear hi)))
    go_meet
    case rel => exact ⟨_, (!t355), (pF), H', ⟨by first | omega | exact Nat.le_refl _⟩, ⟨by (with_reducible repeat (first | apply bN | apply bD | apply bA)); exact BK353.out⟩, ⟨pB1 HB.out GE353.out⟩⟩
 case rest =>
  clear HC4
  try clear c1
  try clear p2
  try clear c4
  try clear c7
  try clear c8
  try clear c10
  try clear c10b0
  try clear c10b1
  try clear hcz11_0
  try clear hcz11_1
  try clear hcz11_2
  try clear hcz14_0
  try clear hcz14_1
  try clear hcz14_2
  try clear hcz16_0
  try clear hcz16_1
  try clear hcz16_2
  try clear hcz8_0
  try clear hcz8_1
  try clear hcz8_2
  try clear hfz11_0
  try clear hfz11_1
  try clear hfz11_2
  try clear hfz14_0
  try clear hfz14_1
  try clear hfz14_2
  try clear hfz16_0
  try clear hfz16_1
  try clear hfz16_2
  try clear hfz8_0
  try clear hfz8_1
  try clear hfz8_2
  obtain ⟨kq, x29_3, rfl, HA, HJ3, BK353, HB⟩ := hcut
  cases kq with
  | zero => exact absurd HA.out (by simp [gradinelaw22_ViewTwice.j0])
  | succ kj3 =>
   have H := HA.out
   clear HA
   simp only [gradinelaw22_ViewTwice.j0] at H
   by_cases c18 : x29_3 = true
   ·subst c18
    have H1 : ((gradinelaw22_same.f).bind fun t356 => (some t356)) = some true := by rw [if_pos rfl] at H; exact H
    clear H
    have H := H1
    clear H1
    replace H := Option.bind_eq_some_iff.mp H
    obtain ⟨t356, A190, H⟩ := H
    replace H : (some t356) = some true := H
    have A19 := Aside0.mk A190
    clear A190
    have hv_ := Aside0.mk (Option.some.inj H)
    clear H
    go_wp2_with (first | ((with_reducible refine gate_callee (f := 9) rfl ?_); refine goesL_ (some 30) rfl rfl Try.func9 (by kernel_rfl) rfl #[] rfl pA ?_; (with_reducible refine (gradinelaw22_same.calls  t356 _ A19.out).mono ?_); rintro e w20 ⟨rfl, hb⟩; refine ⟨_, rfl, ?_⟩; have n0_ := Aside0.mk (blk_below (g := gb353) (pK BK353.out) hb); have n1_ := Aside0.mk (below_step (pB1 HB.out GE353.out) hb); clear BK353; clear HB; have BK353 := n0_; have HB := n1_; clear n0_ n1_; (try clear hb); (try clear hb2); (try clear hk); (try clear hi)))
    go_ret
    replace hv_ := hv_.out
    exact ⟨pE, pB1 HB.out GE353.out⟩
   ·replace c18 := Bool.eq_false_iff.mpr c18
    subst c18
    have H1 : ((gradineref22_Cells.f kj3 a0_0 l0_1 l0_2 64).bind fun t357 => ((view_Flip.f kj3 a0_0 l0_1 l0_2 a2).bind fun bt360 => ((view_Flip.f kj3 bt360.1 bt360.2.1 bt360.2.2.1 a2).bind fun bt369 => (if bt360.2.2.2 = 0 then (if bt369.2.2.2 = 0 then ((gradineref22_Cells.f kj3 bt369.1 bt369.2.1 bt369.2.2.1 64).bind fun t378 => ((gradineplain_Ints.f kj3 t378 t357).bind fun t381 => (gradinelaw22_ViewTwice.j1 kj3 l1 t357 bt360.2.2.2 (!t381) a0_0 l0_1 l0_2 bt360.1 bt360.2.1 bt360.2.2.1))) else (gradinelaw22_ViewTwice.j1 kj3 l1 t357 bt360.2.2.2 true a0_0 l0_1 l0_2 bt360.1 bt360.2.1 bt360.2.2.1)) else (gradinelaw22_ViewTwice.j1 kj3 l1 t357 bt360.2.2.2 false a0_0 l0_1 l0_2 bt360.1 bt360.2.1 bt360.2.2.1))))) = some true := by rw [if_neg (show ¬ (false = true) by decide)] at H; exact H
    clear H
    have H := H1
    clear H1
    replace H := Option.bind_eq_some_iff.mp H
    obtain ⟨t357, A210, H⟩ := H
    replace H : ((view_Flip.f kj3 a0_0 l0_1 l0_2 a2).bind fun bt360 => ((view_Flip.f kj3 bt360.1 bt360.2.1 bt360.2.2.1 a2).bind fun bt369 => (if bt360.2.2.2 = 0 then (if bt369.2.2.2 = 0 then ((gradineref22_Cells.f kj3 bt369.1 bt369.2.1 bt369.2.2.1 64).bind fun t378 => ((gradineplain_Ints.f kj3 t378 t357).bind fun t381 => (gradinelaw22_ViewTwice.j1 kj3 l1 t357 bt360.2.2.2 (!t381) a0_0 l0_1 l0_2 bt360.1 bt360.2.1 bt360.2.2.1))) else (gradinelaw22_ViewTwice.j1 kj3 l1 t357 bt360.2.2.2 true a0_0 l0_1 l0_2 bt360.1 bt360.2.1 bt360.2.2.1)) else (gradinelaw22_ViewTwice.j1 kj3 l1 t357 bt360.2.2.2 false a0_0 l0_1 l0_2 bt360.1 bt360.2.1 bt360.2.2.1)))) = some true := H
    have A21 := Aside0.mk A210
    clear A210
    replace H := Option.bind_eq_some_iff.mp H
    obtain ⟨⟨t360, t361, t364, t367⟩, A220, H⟩ := H
    replace H : ((view_Flip.f kj3 t360 t361 t364 a2).bind fun bt369 => (if t367 = 0 then (if bt369.2.2.2 = 0 then ((gradineref22_Cells.f kj3 bt369.1 bt369.2.1 bt369.2.2.1 64).bind fun t378 => ((gradineplain_Ints.f kj3 t378 t357).bind fun t381 => (gradinelaw22_ViewTwice.j1 kj3 l1 t357 t367 (!t381) a0_0 l0_1 l0_2 t360 t361 t364))) else (gradinelaw22_ViewTwice.j1 kj3 l1 t357 t367 true a0_0 l0_1 l0_2 t360 t361 t364)) else (gradinelaw22_ViewTwice.j1 kj3 l1 t357 t367 false a0_0 l0_1 l0_2 t360 t361 t364))) = some true := H
    have A22 := Aside0.mk A220
    clear A220
    replace H := Option.bind_eq_some_iff.mp H
    obtain ⟨⟨t369, t370, t373, t376⟩, A230, H⟩ := H
    replace H : (if t367 = 0 then (if t376 = 0 then ((gradineref22_Cells.f kj3 t369 t370 t373 64).bind fun t378 => ((gradineplain_Ints.f kj3 t378 t357).bind fun t381 => (gradinelaw22_ViewTwice.j1 kj3 l1 t357 t367 (!t381) a0_0 l0_1 l0_2 t360 t361 t364))) else (gradinelaw22_ViewTwice.j1 kj3 l1 t357 t367 true a0_0 l0_1 l0_2 t360 t361 t364)) else (gradinelaw22_ViewTwice.j1 kj3 l1 t357 t367 false a0_0 l0_1 l0_2 t360 t361 t364)) = some true := H
    have A23 := Aside0.mk A230
    clear A230
    have HC24 := Aside0.mk H
    clear H
    have hcz25_0 : wc.cell? ⟨gb353, 0, none⟩ = some (.int .i64 a0_0) := (blk_cell BK353.out 0).trans rfl
    have hcz25_1 : wc.cell? ⟨gb353, 1, none⟩ = some (.slice A0_1 l0_1.length c0_1) := (blk_cell BK353.out 1).trans rfl
    have hcz25_2 : wc.cell? ⟨gb353, 2, none⟩ = some (.slice A0_2 l0_2.length c0_2) := (blk_cell BK353.out 2).trans rfl
    have hfz25_0 := blk_frozen BK353.out 0
    have hfz25_1 := blk_frozen BK353.out 1
    have hfz25_2 := blk_frozen BK353.out 2
    go_upto_region 6 with (first | ((with_reducible refine gate_callee (f := 10) rfl ?_); refine goesL_ (some 32) rfl rfl Try.func10 (by kernel_rfl) rfl #[.agg #[.int .i64 a0_0, .slice A0_1 l0_1.length c0_1, .slice A0_2 l0_2.length c0_2], .int .i64 64] rfl pA ?_; (with_reducible refine (gradineref22_Cells.calls kj3 a0_0 _ _ l0_1 _ _ l0_2 64 t357 _ ?side1 ?side2 ?side3 ?side4 A21.out).mono ?_); (case side1 => exact pC (Kd.C_below HR0_1.out HB.out)); (case side2 => exact HC0_1.out); (case side3 => exact pC (Kd.C_below HR0_2.out HB.out)); (case side4 => exact HC0_2.out); rintro e w26 ⟨v358, rfl, ho0, hb⟩; refine ⟨_, rfl, ?_⟩; have n0_ := Aside0.mk (Kd.R_lower ho0 (below_size (pB1 HB.out GE353.out))); have n1_ := Aside0.mk (blk_below (g := gb353) (pK BK353.out) hb); have n2_ := Aside0.mk (below_step (pB1 HB.out GE353.out) hb); clear BK353; clear HB; have HO359 := n0_; have BK353 := n1_; have HB := n2_; clear n0_ n1_ n2_; (try clear hb); (try clear hb2); (try clear hk); (try clear hi); (try clear ho0); have hcz27_0 : w26.cell? ⟨gb353, 0, none⟩ = some (.int .i64 a0_0) := (blk_cell BK353.out 0).trans rfl; have hcz27_1 : w26.cell? ⟨gb353, 1, none⟩ = some (.slice A0_1 l0_1.length c0_1) := (blk_cell BK353.out 1).trans rfl; have hcz27_2 : w26.cell? ⟨gb353, 2, none⟩ = some (.slice A0_2 l0_2.length c0_2) := (blk_cell BK353.out 2).trans rfl; have hfz27_0 := blk_frozen BK353.out 0; have hfz27_1 := blk_frozen BK353.out 1; have hfz27_2 := blk_frozen BK353.out 2) | ((with_reducible refine gate_callee (f := 19) rfl ?_); refine goesL_ (some 36) rfl rfl Try.func19 (by kernel_rfl) rfl #[.agg #[.int .i64 a0_0, .slice A0_1 l0_1.length c0_1, .slice A0_2 l0_2.length c0_2], .int .i64 a2] rfl pA ?_; (with_reducible refine (view_Flip.calls kj3 a0_0 _ _ l0_1 _ _ l0_2 a2 t360 t361 t364 t367 _ ?side1 ?side2 ?side3 ?side4 A22.out).mono ?_); (case side1 => exact pC (Kd.C_below HR0_1.out HB.out)); (case side2 => exact HC0_1.out); (case side3 => exact pC (Kd.C_below HR0_2.out HB.out)); (case side4 => exact HC0_2.out); rintro e w28 ⟨v362, v365, rfl, ho0, ho1, hb⟩; refine ⟨_, rfl, ?_⟩; have n0_ := Aside0.mk (Kd.R_mono (Kd.R_told (Kd.R_told (Kd.R_old (pR HO359.out) hb) (Kd.R_base ho0)) (Kd.R_base ho1)) (fun _ h_ => h_.1)); have n1_ := Aside0.mk (Kd.R_lower (Kd.R_new' ho0 (Kd.R_lt (pR HO359.out))) (below_size (pB1 HB.out GE353.out))); have n2_ := Aside0.mk (Kd.R_lower (Kd.R_new' ho1 (Kd.R_lt (pR HO359.out))) (below_size (pB1 HB.out GE353.out))); have n3_ := Aside0.mk (blk_below (g := gb353) (pK BK353.out) hb); have n4_ := Aside0.mk (below_step (pB1 HB.out GE353.out) hb); clear HO359; clear BK353; clear HB; have HO359 := n0_; have HO363 := n1_; have HO366 := n2_; have BK353 := n3_; have HB := n4_; clear n0_ n1_ n2_ n3_ n4_; (try clear hb); (try clear hb2); (try clear hk); (try clear hi); (try clear ho0); (try clear ho1)) | ((with_reducible refine gate_dst (N := 8) rfl ?_); (try (refine gate_guard (by rfl) ?_; dsimp only)); refine box_event ?hg (N := 8) ?hd (cs := #[.int .i64 0, .slice none 0 0, .slice none 0 0]) (t := 24) ?hr ?_; (case hd => rfl); (case hg => rfl); (case hr => first | (go_simp; done) | (go_simp; rfl)); intro gb368 hg w29 hbox hb; have n0_ := Aside0.mk (Kd.R_below (pR HO359.out) hb); have n1_ := Aside0.mk (Kd.R_below (pR HO363.out) hb); have n2_ := Aside0.mk (Kd.R_below (pR HO366.out) hb); have n3_ := Aside0.mk (blk_below (g := gb353) (pK BK353.out) hb); have n4_ := Aside0.mk (below_step (pB1 HB.out GE353.out) hb); have n5_ := Aside0.mk (hbox); have n6_ := Aside0.mk ((by rw [hg]; exact (below_size (pB1 HB.out GE353.out)) : w.heap.size ≤ gb368)); have n7_ := Aside0.mk ((by rw [hg]; exact (below_size (pB1 HB.out GE353.out)) : w.heap.size ≤ gb368)); have n8_ := Aside0.mk ((by rw [hg]; exact Nat.ne_of_lt (blk_lt (g := gb353) (pK BK353.out)) : gb353 ≠ gb368)); have n9_ := Aside0.mk ((by rw [hg]; exact Nat.ne_of_gt (blk_lt (g := gb353) (pK BK353.out)) : gb368 ≠ gb353)); clear HO359; clear HO363; clear HO366; clear BK353; clear HB; have HO359 := n0_; have HO363 := n1_; have HO366 := n2_; have BK353 := n3_; have HB := n4_; have BK368 := n5_; have GW368 := n6_; have GE368 := n7_; have NB353_368 := n8_; have NB368_353 := n9_; clear n0_ n1_ n2_ n3_ n4_ n5_ n6_ n7_ n8_ n9_; clear hb hbox hg; have hnb30 := NB368_353.out; have hnc30 := NB353_368.out; have hcz31_0 : w29.cell? ⟨gb368, 0, none⟩ = some (.int .i64 0) := (blk_cell BK368.out 0).trans rfl; have hcz31_1 : w29.cell? ⟨gb368, 1, none⟩ = some (.slice none 0 0) := (blk_cell BK368.out 1).trans rfl; have hcz31_2 : w29.cell? ⟨gb368, 2, none⟩ = some (.slice none 0 0) := (blk_cell BK368.out 2).trans rfl; have hfz31_0 := blk_frozen BK368.out 0; have hfz31_1 := blk_frozen BK368.out 1; have hfz31_2 := blk_frozen BK368.out 2; obtain ⟨Ao32, co32, eo32⟩ := Kd.R_slice HO363.out; subst eo32; obtain ⟨Ao33, co33, eo33⟩ := Kd.R_slice HO366.out; subst eo33) | ((with_reducible refine gate_callee (f := 19) rfl ?_); refine goesL_ (some 42) rfl rfl Try.func19 (by kernel_rfl) rfl #[.agg #[.int .i64 t360, .slice Ao32 t361.length co32, .slice Ao33 t364.length co33], .int .i64 a2] rfl pA ?_; (with_reducible refine (view_Flip.calls kj3 t360 _ _ t361 _ _ t364 a2 t369 t370 t373 t376 _ ?side1 ?side2 ?side3 ?side4 A23.out).mono ?_); (case side1 => refine (Kd.R_reads' (e := 3) (base := w.heap.size) (ok := fun k_ => (some k_ ≠ (.slice Ao33 t364.length co33 : Value).ownBlock ∧ some k_ ≠ (v358 : Value).ownBlock)) (n := t361.length) (c := co32) ?_).2.2; exact (by (with_reducible repeat (first | apply Kd.R_alloc | apply Kd.R_drewN | apply Kd.R_drew)); exact (Kd.R_mono (Kd.R_far (p := ⟨gb368, 2, none⟩) (Kd.R_far (p := ⟨gb368, 1, none⟩) (Kd.R_far (p := ⟨gb368, 0, none⟩) (Kd.R_types HO363.out BK368.out (by decide)) (fun _ hk => hk.2) (.int .i64 t360)) (fun _ hk => hk.2) (.slice Ao32 t361.length co32)) (fun _ hk => hk.2) (.slice Ao33 t364.length co33)) (fun _ h_ => h_.1)))); (case side2 => exact (Kd.R_reads' HO363.out).2.1); (case side3 => refine (Kd.R_reads' (e := 3) (base := w.heap.size) (ok := fun k_ => (some k_ ≠ (.slice Ao32 t361.length co32 : Value).ownBlock ∧ some k_ ≠ (v358 : Value).ownBlock)) (n := t364.length) (c := co33) ?_).2.2; exact (by (with_reducible repeat (first | apply Kd.R_alloc | apply Kd.R_drewN | apply Kd.R_drew)); exact (Kd.R_mono (Kd.R_far (p := ⟨gb368, 2, none⟩) (Kd.R_far (p := ⟨gb368, 1, none⟩) (Kd.R_far (p := ⟨gb368, 0, none⟩) (Kd.R_types HO366.out BK368.out (by decide)) (fun _ hk => hk.2) (.int .i64 t360)) (fun _ hk => hk.2) (.slice Ao32 t361.length co32)) (fun _ hk => hk.2) (.slice Ao33 t364.length co33)) (fun _ h_ => h_.1)))); (case side4 => exact (Kd.R_reads' HO366.out).2.1); rintro e w34 ⟨v371, v374, rfl, ho0, ho1, hb⟩; refine ⟨_, rfl, ?_⟩; have n0_ := Aside0.mk (Kd.R_mono (Kd.R_told (Kd.R_told (Kd.R_old (by (with_reducible repeat (first | apply Kd.R_alloc | apply Kd.R_drewN | apply Kd.R_drew)); exact (Kd.R_mono (Kd.R_far (p := ⟨gb368, 2, none⟩) (Kd.R_far (p := ⟨gb368, 1, none⟩) (Kd.R_far (p := ⟨gb368, 0, none⟩) (Kd.R_types HO359.out BK368.out (by decide)) (fun _ hk => hk.2) (.int .i64 t360)) (fun _ hk => hk.2) (.slice Ao32 t361.length co32)) (fun _ hk => hk.2) (.slice Ao33 t364.length co33)) (fun _ h_ => h_.1))) hb) (Kd.R_base ho0)) (Kd.R_base ho1)) (fun _ h_ => h_.1)); have n1_ := Aside0.mk (Kd.R_mono (Kd.R_told (Kd.R_told (Kd.R_old (by (with_reducible repeat (first | apply Kd.R_alloc | apply Kd.R_drewN | apply Kd.R_drew)); exact (Kd.R_mono (Kd.R_far (p := ⟨gb368, 2, none⟩) (Kd.R_far (p := ⟨gb368, 1, none⟩) (Kd.R_far (p := ⟨gb368, 0, none⟩) (Kd.R_types HO363.out BK368.out (by decide)) (fun _ hk => hk.2) (.int .i64 t360)) (fun _ hk => hk.2) (.slice Ao32 t361.length co32)) (fun _ hk => hk.2) (.slice Ao33 t364.length co33)) (fun _ h_ => h_.1))) hb) (Kd.R_base ho0)) (Kd.R_base ho1)) (fun _ h_ => h_.1)); have n2_ := Aside0.mk (Kd.R_mono (Kd.R_told (Kd.R_told (Kd.R_old (by (with_reducible repeat (first | apply Kd.R_alloc | apply Kd.R_drewN | apply Kd.R_drew)); exact (Kd.R_mono (Kd.R_far (p := ⟨gb368, 2, none⟩) (Kd.R_far (p := ⟨gb368, 1, none⟩) (Kd.R_far (p := ⟨gb368, 0, none⟩) (Kd.R_types HO366.out BK368.out (by decide)) (fun _ hk => hk.2) (.int .i64 t360)) (fun _ hk => hk.2) (.slice Ao32 t361.length co32)) (fun _ hk => hk.2) (.slice Ao33 t364.length co33)) (fun _ h_ => h_.1))) hb) (Kd.R_base ho0)) (Kd.R_base ho1)) (fun _ h_ => h_.1)); have n3_ := Aside0.mk (Kd.R_lower (Kd.R_new' (Kd.R_new' (Kd.R_new' ho0 (Kd.R_lt (by (with_reducible repeat (first | apply Kd.R_alloc | apply Kd.R_drewN | apply Kd.R_drew)); exact (Kd.R_mono (Kd.R_far (p := ⟨gb368, 2, none⟩) (Kd.R_far (p := ⟨gb368, 1, none⟩) (Kd.R_far (p := ⟨gb368, 0, none⟩) (Kd.R_types HO359.out BK368.out (by decide)) (fun _ hk => hk.2) (.int .i64 t360)) (fun _ hk => hk.2) (.slice Ao32 t361.length co32)) (fun _ hk => hk.2) (.slice Ao33 t364.length co33)) (fun _ h_ => h_.1))))) (Kd.R_lt (by (with_reducible repeat (first | apply Kd.R_alloc | apply Kd.R_drewN | apply Kd.R_drew)); exact (Kd.R_mono (Kd.R_far (p := ⟨gb368, 2, none⟩) (Kd.R_far (p := ⟨gb368, 1, none⟩) (Kd.R_far (p := ⟨gb368, 0, none⟩) (Kd.R_types HO363.out BK368.out (by decide)) (fun _ hk => hk.2) (.int .i64 t360)) (fun _ hk => hk.2) (.slice Ao32 t361.length co32)) (fun _ hk => hk.2) (.slice Ao33 t364.length co33)) (fun _ h_ => h_.1))))) (Kd.R_lt (by (with_reducible repeat (first | apply Kd.R_alloc | apply Kd.R_drewN | apply Kd.R_drew)); exact (Kd.R_mono (Kd.R_far (p := ⟨gb368, 2, none⟩) (Kd.R_far (p := ⟨gb368, 1, none⟩) (Kd.R_far (p := ⟨gb368, 0, none⟩) (Kd.R_types HO366.out BK368.out (by decide)) (fun _ hk => hk.2) (.int .i64 t360)) (fun _ hk => hk.2) (.slice Ao32 t361.length co32)) (fun _ hk => hk.2) (.slice Ao33 t364.length co33)) (fun _ h_ => h_.1))))) (below_size (pB2 HB.out GE353.out GE368.out))); have n4_ := Aside0.mk (Kd.R_lower (Kd.R_new' (Kd.R_new' (Kd.R_new' ho1 (Kd.R_lt (by (with_reducible repeat (first | apply Kd.R_alloc | apply Kd.R_drewN | apply Kd.R_drew)); exact (Kd.R_mono (Kd.R_far (p := ⟨gb368, 2, none⟩) (Kd.R_far (p := ⟨gb368, 1, none⟩) (Kd.R_far (p := ⟨gb368, 0, none⟩) (Kd.R_types HO359.out BK368.out (by decide)) (fun _ hk => hk.2) (.int .i64 t360)) (fun _ hk => hk.2) (.slice Ao32 t361.length co32)) (fun _ hk => hk.2) (.slice Ao33 t364.length co33)) (fun _ h_ => h_.1))))) (Kd.R_lt (by (with_reducible repeat (first | apply Kd.R_alloc | apply Kd.R_drewN | apply Kd.R_drew)); exact (Kd.R_mono (Kd.R_far (p := ⟨gb368, 2, none⟩) (Kd.R_far (p := ⟨gb368, 1, none⟩) (Kd.R_far (p := ⟨gb368, 0, none⟩) (Kd.R_types HO363.out BK368.out (by decide)) (fun _ hk => hk.2) (.int .i64 t360)) (fun _ hk => hk.2) (.slice Ao32 t361.length co32)) (fun _ hk => hk.2) (.slice Ao33 t364.length co33)) (fun _ h_ => h_.1))))) (Kd.R_lt (by (with_reducible repeat (first | apply Kd.R_alloc | apply Kd.R_drewN | apply Kd.R_drew)); exact (Kd.R_mono (Kd.R_far (p := ⟨gb368, 2, none⟩) (Kd.R_far (p := ⟨gb368, 1, none⟩) (Kd.R_far (p := ⟨gb368, 0, none⟩) (Kd.R_types HO366.out BK368.out (by decide)) (fun _ hk => hk.2) (.int .i64 t360)) (fun _ hk => hk.2) (.slice Ao32 t361.length co32)) (fun _ hk => hk.2) (.slice Ao33 t364.length co33)) (fun _ h_ => h_.1))))) (below_size (pB2 HB.out GE353.out GE368.out))); have n5_ := Aside0.mk (blk_below (g := gb353) (o := .cells #[.int .i64 a0_0, .slice A0_1 l0_1.length c0_1, .slice A0_2 l0_2.length c0_2] 24 (0, 0)) (by (with_reducible repeat (first | apply bN | apply bD | apply bA)); refine blk_far ?_ NB353_368.out _; (with_reducible repeat (first | apply bN | apply bD | apply bA)); refine blk_far ?_ NB353_368.out _; (with_reducible repeat (first | apply bN | apply bD | apply bA)); refine blk_far ?_ NB353_368.out _; (with_reducible repeat (first | apply bN | apply bD | apply bA)); exact BK353.out) hb); have n6_ := Aside0.mk (blk_below (g := gb368) (o := .cells #[.int .i64 t360, .slice Ao32 t361.length co32, .slice Ao33 t364.length co33] 24 (0, 0)) (by (with_reducible repeat (first | apply bN | apply bD | apply bA)); refine blk_put (cs := #[.int .i64 t360, .slice Ao32 t361.length co32, .slice none 0 0]) ?_ 2 _ rfl; (with_reducible repeat (first | apply bN | apply bD | apply bA)); refine blk_put (cs := #[.int .i64 t360, .slice none 0 0, .slice none 0 0]) ?_ 1 _ rfl; (with_reducible repeat (first | apply bN | apply bD | apply bA)); refine blk_put (cs := #[.int .i64 0, .slice none 0 0, .slice none 0 0]) ?_ 0 _ rfl; (with_reducible repeat (first | apply bN | apply bD | apply bA)); exact BK368.out) hb); have n7_ := Aside0.mk (below_step (pB2 HB.out GE353.out GE368.out) hb); clear HO359; clear HO363; clear HO366; clear BK353; clear BK368; clear HB; have HO359 := n0_; have HO363 := n1_; have HO366 := n2_; have HO372 := n3_; have HO375 := n4_; have BK353 := n5_; have BK368 := n6_; have HB := n7_; clear n0_ n1_ n2_ n3_ n4_ n5_ n6_ n7_; (try clear hb); (try clear hb2); (try clear hk); (try clear hi); (try clear ho0); (try clear ho1)) | ((with_reducible refine gate_dst (N := 10) rfl ?_); (try (refine gate_guard (by rfl) ?_; dsimp only)); refine box_event ?hg (N := 10) ?hd (cs := #[.int .i64 0, .slice none 0 0, .slice none 0 0]) (t := 24) ?hr ?_; (case hd => rfl); (case hg => rfl); (case hr => first | (go_simp; done) | (go_simp; rfl)); intro gb377 hg w35 hbox hb; have n0_ := Aside0.mk (Kd.R_below (pR HO359.out) hb); have n1_ := Aside0.mk (Kd.R_below (pR HO363.out) hb); have n2_ := Aside0.mk (Kd.R_below (pR HO366.out) hb); have n3_ := Aside0.mk (Kd.R_below (pR HO372.out) hb); have n4_ := Aside0.mk (Kd.R_below (pR HO375.out) hb); have n5_ := Aside0.mk (blk_below (g := gb353) (pK BK353.out) hb); have n6_ := Aside0.mk (blk_below (g := gb368) (pK BK368.out) hb); have n7_ := Aside0.mk (below_step (pB2 HB.out GE353.out GE368.out) hb); have n8_ := Aside0.mk (hbox); have n9_ := Aside0.mk ((by rw [hg]; exact (below_size (pB2 HB.out GE353.out GE368.out)) : w.heap.size ≤ gb377)); have n10_ := Aside0.mk ((by rw [hg]; exact (below_size (pB2 HB.out GE353.out GE368.out)) : w.heap.size ≤ gb377)); have n11_ := Aside0.mk ((by rw [hg]; exact Nat.ne_of_lt (blk_lt (g := gb353) (pK BK353.out)) : gb353 ≠ gb377)); have n12_ := Aside0.mk ((by rw [hg]; exact Nat.ne_of_gt (blk_lt (g := gb353) (pK BK353.out)) : gb377 ≠ gb353)); have n13_ := Aside0.mk ((by rw [hg]; exact Nat.ne_of_lt (blk_lt (g := gb368) (pK BK368.out)) : gb368 ≠ gb377)); have n14_ := Aside0.mk ((by rw [hg]; exact Nat.ne_of_gt (blk_lt (g := gb368) (pK BK368.out)) : gb377 ≠ gb368)); clear HO359; clear HO363; clear HO366; clear HO372; clear HO375; clear BK353; clear BK368; clear HB; have HO359 := n0_; have HO363 := n1_; have HO366 := n2_; have HO372 := n3_; have HO375 := n4_; have BK353 := n5_; have BK368 := n6_; have HB := n7_; have BK377 := n8_; have GW377 := n9_; have GE377 := n10_; have NB353_377 := n11_; have NB377_353 := n12_; have NB368_377 := n13_; have NB377_368 := n14_; clear n0_ n1_ n2_ n3_ n4_ n5_ n6_ n7_ n8_ n9_ n10_ n11_ n12_ n13_ n14_; clear hb hbox hg; have hnb36 := NB377_353.out; have hnc36 := NB353_377.out; have hnb37 := NB377_368.out; have hnc37 := NB368_377.out; have hcz38_0 : w35.cell? ⟨gb377, 0, none⟩ = some (.int .i64 0) := (blk_cell BK377.out 0).trans rfl; have hcz38_1 : w35.cell? ⟨gb377, 1, none⟩ = some (.slice none 0 0) := (blk_cell BK377.out 1).trans rfl; have hcz38_2 : w35.cell? ⟨gb377, 2, none⟩ = some (.slice none 0 0) := (blk_cell BK377.out 2).trans rfl; have hfz38_0 := blk_frozen BK377.out 0; have hfz38_1 := blk_frozen BK377.out 1; have hfz38_2 := blk_frozen BK377.out 2; obtain ⟨Ao39, co39, eo39⟩ := Kd.R_slice HO372.out; subst eo39; obtain ⟨Ao40, co40, eo40⟩ := Kd.R_slice HO375.out; subst eo40))
    (try simp only [Act.put, List.setIfInBounds_toArray, List.set_cons_zero, List.set_cons_succ])
    go_cut [57] (fun v57 wc => ∃ (kq : Nat) (x57_23 : Bool), v57 = .bool x57_23 ∧ Aside0 (gradinelaw22_ViewTwice.j1 kq l1 t357 t367 x57_23 a0_0 l0_1 l0_2 t360 t361 t364 = some true) ∧ Aside0 (kq ≤ kj3) ∧ Aside0 (Kd.R (Kd.int .i64) 3 wc w.heap.size (fun k_ => some k_ ≠ ((.slice Ao32 t361.length co32) : Value).ownBlock ∧ some k_ ≠ ((.slice Ao33 t364.length co33) : Value).ownBlock ∧ some k_ ≠ ((.slice Ao39 t370.length co39) : Value).ownBlock ∧ some k_ ≠ ((.slice Ao40 t373.length co40) : Value).ownBlock) v358 t357) ∧ Aside0 (Kd.R (Kd.int .i64) 3 wc w.heap.size (fun k_ => some k_ ≠ (v358 : Value).ownBlock ∧ some k_ ≠ ((.slice Ao33 t364.length co33) : Value).ownBlock ∧ some k_ ≠ ((.slice Ao39 t370.length co39) : Value).ownBlock ∧ some k_ ≠ ((.slice Ao40 t373.length co40) : Value).ownBlock) (.slice Ao32 t361.length co32) t361) ∧ Aside0 (Kd.R (Kd.int .i64) 3 wc w.heap.size (fun k_ => some k_ ≠ (v358 : Value).ownBlock ∧ some k_ ≠ ((.slice Ao32 t361.length co32) : Value).ownBlock ∧ some k_ ≠ ((.slice Ao39 t370.length co39) : Value).ownBlock ∧ some k_ ≠ ((.slice Ao40 t373.length co40) : Value).ownBlock) (.slice Ao33 t364.length co33) t364) ∧ Aside0 (Kd.R (Kd.int .i64) 3 wc w.heap.size (fun k_ => some k_ ≠ (v358 : Value).ownBlock ∧ some k_ ≠ ((.slice Ao32 t361.length co32) : Value).ownBlock ∧ some k_ ≠ ((.slice Ao33 t364.length co33) : Value).ownBlock ∧ some k_ ≠ ((.slice Ao40 t373.length co40) : Value).ownBlock) (.slice Ao39 t370.length co39) t370) ∧ Aside0 (Kd.R (Kd.int .i64) 3 wc w.heap.size (fun k_ => some k_ ≠ (v358 : Value).ownBlock ∧ some k_ ≠ ((.slice Ao32 t361.length co32) : Value).ownBlock ∧ some k_ ≠ ((.slice Ao33 t364.length co33) : Value).ownBlock ∧ some k_ ≠ ((.slice Ao39 t370.length co39) : Value).ownBlock) (.slice Ao40 t373.length co40) t373) ∧ Aside0 (wc.heap[gb353]? = some (.cells #[.int .i64 a0_0, (.slice A0_1 l0_1.length c0_1), (.slice A0_2 l0_2.length c0_2)] 24 (0, 0))) ∧ Aside0 (wc.heap[gb368]? = some (.cells #[.int .i64 t360, (.slice Ao32 t361.length co32), (.slice Ao33 t364.length co33)] 24 (0, 0))) ∧ Aside0 (wc.heap[gb377]? = some (.cells #[.int .i64 t369, (.slice Ao39 t370.length co39), (.slice Ao40 t373.length co40)] 24 (0, 0))) ∧ Aside0 (Below w.heap.size w wc))
    case first =>
     have H := HC24.out
     clear HC24
     by_cases c41 : t367 = 0
     ·rw [if_pos c41] at H
      have c41b0 : (t367 == 0) = true := beq_iff_eq.mpr c41
      have c41b1 : (t367 != 0) = false := bne_eq_false_iff_eq.mpr c41
      clear c41
      (first | rw [c41b0] | (simp only [i64_w, i32_w]; rw [c41b0]) | skip)
      by_cases c42 : t376 = 0
      ·rw [if_pos c42] at H
       have c42b0 : (t376 == 0) = true := beq_iff_eq.mpr c42
       have c42b1 : (t376 != 0) = false := bne_eq_false_iff_eq.mpr c42
       clear c42
       replace H := Option.bind_eq_some_iff.mp H
       obtain ⟨t378, A430, H⟩ := H
       replace H : ((gradineplain_Ints.f kj3 t378 t357).bind fun t381 => (gradinelaw22_ViewTwice.j1 kj3 l1 t357 t367 (!t381) a0_0 l0_1 l0_2 t360 t361 t364)) = some true := H
       have A43 := Aside0.mk A430
       clear A430
       replace H := Option.bind_eq_some_iff.mp H
       obtain ⟨t381, A440, H⟩ := H
       replace H : (gradinelaw22_ViewTwice.j1 kj3 l1 t357 t367 (!t381) a0_0 l0_1 l0_2 t360 t361 t364) = some true := H
       have A44 := Aside0.mk A440
       clear A440
       have H' := Aside0.mk H
       clear H
       have hnb45 := NB377_353.out
       have hnc45 := NB353_377.out
       have hnb46 := NB377_368.out
       have hnc46 := NB368_377.out
       have hcz47_0 : w35.cell? ⟨gb377, 0, none⟩ = some (.int .i64 0) := (blk_cell BK377.out 0).trans rfl
       have hcz47_1 : w35.cell? ⟨gb377, 1, none⟩ = some (.slice none 0 0) := (blk_cell BK377.out 1).trans rfl
       have hcz47_2 : w35.cell? ⟨gb377, 2, none⟩ = some (.slice none 0 0) := (blk_cell BK377.out 2).trans rfl
       have hfz47_0 := blk_frozen BK377.out 0
       have hfz47_1 := blk_frozen BK377.out 1
       have hfz47_2 := blk_frozen BK377.out 2
       go_wp2_with (first | (go_at_call 10; (with_reducible refine (gradineref22_Cells.calls kj3 t369 _ _ t370 _ _ t373 64 t378 _ ?side1 ?side2 ?side3 ?side4 A43.out).mono ?_); (case side1 => refine (Kd.R_reads' (e := 3) (base := w.heap.size) (ok := fun k_ => (((some k_ ≠ (.slice Ao40 t373.length co40 : Value).ownBlock ∧ some k_ ≠ (v358 : Value).ownBlock) ∧ some k_ ≠ (.slice Ao32 t361.length co32 : Value).ownBlock) ∧ some k_ ≠ (.slice Ao33 t364.length co33 : Value).ownBlock)) (n := t370.length) (c := co39) ?_).2.2; exact (by (with_reducible repeat (first | apply Kd.R_alloc | apply Kd.R_drewN | apply Kd.R_drew)); exact (Kd.R_mono (Kd.R_far (p := ⟨gb377, 2, none⟩) (Kd.R_far (p := ⟨gb377, 1, none⟩) (Kd.R_far (p := ⟨gb377, 0, none⟩) (Kd.R_types HO372.out BK377.out (by decide)) (fun _ hk => hk.2) (.int .i64 t369)) (fun _ hk => hk.2) (.slice Ao39 t370.length co39)) (fun _ hk => hk.2) (.slice Ao40 t373.length co40)) (fun _ h_ => h_.1)))); (case side2 => exact (Kd.R_reads' HO372.out).2.1); (case side3 => refine (Kd.R_reads' (e := 3) (base := w.heap.size) (ok := fun k_ => (((some k_ ≠ (.slice Ao39 t370.length co39 : Value).ownBlock ∧ some k_ ≠ (v358 : Value).ownBlock) ∧ some k_ ≠ (.slice Ao32 t361.length co32 : Value).ownBlock) ∧ some k_ ≠ (.slice Ao33 t364.length co33 : Value).ownBlock)) (n := t373.length) (c := co40) ?_).2.2; exact (by (with_reducible repeat (first | apply Kd.R_alloc | apply Kd.R_drewN | apply Kd.R_drew)); exact (Kd.R_mono (Kd.R_far (p := ⟨gb377, 2, none⟩) (Kd.R_far (p := ⟨gb377, 1, none⟩) (Kd.R_far (p := ⟨gb377, 0, none⟩) (Kd.R_types HO375.out BK377.out (by decide)) (fun _ hk => hk.2) (.int .i64 t369)) (fun _ hk => hk.2) (.slice Ao39 t370.length co39)) (fun _ hk => hk.2) (.slice Ao40 t373.length co40)) (fun _ h_ => h_.1)))); (case side4 => exact (Kd.R_reads' HO375.out).2.1); rintro e w48 ⟨v379, rfl, ho0, hb⟩; have n0_ := Aside0.mk (Kd.R_elder' (by (with_reducible repeat (first | apply Kd.R_alloc | apply Kd.R_drewN | apply Kd.R_drew)); exact (Kd.R_mono (Kd.R_far (p := ⟨gb377, 2, none⟩) (Kd.R_far (p := ⟨gb377, 1, none⟩) (Kd.R_far (p := ⟨gb377, 0, none⟩) (Kd.R_types HO359.out BK377.out (by decide)) (fun _ hk => hk.2) (.int .i64 t369)) (fun _ hk => hk.2) (.slice Ao39 t370.length co39)) (fun _ hk => hk.2) (.slice Ao40 t373.length co40)) (fun _ h_ => h_.1))) (Kd.R_base ho0) hb); have n1_ := Aside0.mk (Kd.R_elder' (by (with_reducible repeat (first | apply Kd.R_alloc | apply Kd.R_drewN | apply Kd.R_drew)); exact (Kd.R_mono (Kd.R_far (p := ⟨gb377, 2, none⟩) (Kd.R_far (p := ⟨gb377, 1, none⟩) (Kd.R_far (p := ⟨gb377, 0, none⟩) (Kd.R_types HO363.out BK377.out (by decide)) (fun _ hk => hk.2) (.int .i64 t369)) (fun _ hk => hk.2) (.slice Ao39 t370.length co39)) (fun _ hk => hk.2) (.slice Ao40 t373.length co40)) (fun _ h_ => h_.1))) (Kd.R_base ho0) hb); have n2_ := Aside0.mk (Kd.R_elder' (by (with_reducible repeat (first | apply Kd.R_alloc | apply Kd.R_drewN | apply Kd.R_drew)); exact (Kd.R_mono (Kd.R_far (p := ⟨gb377, 2, none⟩) (Kd.R_far (p := ⟨gb377, 1, none⟩) (Kd.R_far (p := ⟨gb377, 0, none⟩) (Kd.R_types HO366.out BK377.out (by decide)) (fun _ hk => hk.2) (.int .i64 t369)) (fun _ hk => hk.2) (.slice Ao39 t370.length co39)) (fun _ hk => hk.2) (.slice Ao40 t373.length co40)) (fun _ h_ => h_.1))) (Kd.R_base ho0) hb); have n3_ := Aside0.mk (Kd.R_elder' (by (with_reducible repeat (first | apply Kd.R_alloc | apply Kd.R_drewN | apply Kd.R_drew)); exact (Kd.R_mono (Kd.R_far (p := ⟨gb377, 2, none⟩) (Kd.R_far (p := ⟨gb377, 1, none⟩) (Kd.R_far (p := ⟨gb377, 0, none⟩) (Kd.R_types HO372.out BK377.out (by decide)) (fun _ hk => hk.2) (.int .i64 t369)) (fun _ hk => hk.2) (.slice Ao39 t370.length co39)) (fun _ hk => hk.2) (.slice Ao40 t373.length co40)) (fun _ h_ => h_.1))) (Kd.R_base ho0) hb); have n4_ := Aside0.mk (Kd.R_elder' (by (with_reducible repeat (first | apply Kd.R_alloc | apply Kd.R_drewN | apply Kd.R_drew)); exact (Kd.R_mono (Kd.R_far (p := ⟨gb377, 2, none⟩) (Kd.R_far (p := ⟨gb377, 1, none⟩) (Kd.R_far (p := ⟨gb377, 0, none⟩) (Kd.R_types HO375.out BK377.out (by decide)) (fun _ hk => hk.2) (.int .i64 t369)) (fun _ hk => hk.2) (.slice Ao39 t370.length co39)) (fun _ hk => hk.2) (.slice Ao40 t373.length co40)) (fun _ h_ => h_.1))) (Kd.R_base ho0) hb); have n5_ := Aside0.mk (Kd.R_lower (Kd.R_new' (Kd.R_new' (Kd.R_new' (Kd.R_new' (Kd.R_new' ho0 (Kd.R_lt (by (with_reducible repeat (first | apply Kd.R_alloc | apply Kd.R_drewN | apply Kd.R_drew)); exact (Kd.R_mono (Kd.R_far (p := ⟨gb377, 2, none⟩) (Kd.R_far (p := ⟨gb377, 1, none⟩) (Kd.R_far (p := ⟨gb377, 0, none⟩) (Kd.R_types HO359.out BK377.out (by decide)) (fun _ hk => hk.2) (.int .i64 t369)) (fun _ hk => hk.2) (.slice Ao39 t370.length co39)) (fun _ hk => hk.2) (.slice Ao40 t373.length co40)) (fun _ h_ => h_.1))))) (Kd.R_lt (by (with_reducible repeat (first | apply Kd.R_alloc | apply Kd.R_drewN | apply Kd.R_drew)); exact (Kd.R_mono (Kd.R_far (p := ⟨gb377, 2, none⟩) (Kd.R_far (p := ⟨gb377, 1, none⟩) (Kd.R_far (p := ⟨gb377, 0, none⟩) (Kd.R_types HO363.out BK377.out (by decide)) (fun _ hk => hk.2) (.int .i64 t369)) (fun _ hk => hk.2) (.slice Ao39 t370.length co39)) (fun _ hk => hk.2) (.slice Ao40 t373.length co40)) (fun _ h_ => h_.1))))) (Kd.R_lt (by (with_reducible repeat (first | apply Kd.R_alloc | apply Kd.R_drewN | apply Kd.R_drew)); exact (Kd.R_mono (Kd.R_far (p := ⟨gb377, 2, none⟩) (Kd.R_far (p := ⟨gb377, 1, none⟩) (Kd.R_far (p := ⟨gb377, 0, none⟩) (Kd.R_types HO366.out BK377.out (by decide)) (fun _ hk => hk.2) (.int .i64 t369)) (fun _ hk => hk.2) (.slice Ao39 t370.length co39)) (fun _ hk => hk.2) (.slice Ao40 t373.length co40)) (fun _ h_ => h_.1))))) (Kd.R_lt (by (with_reducible repeat (first | apply Kd.R_alloc | apply Kd.R_drewN | apply Kd.R_drew)); exact (Kd.R_mono (Kd.R_far (p := ⟨gb377, 2, none⟩) (Kd.R_far (p := ⟨gb377, 1, none⟩) (Kd.R_far (p := ⟨gb377, 0, none⟩) (Kd.R_types HO372.out BK377.out (by decide)) (fun _ hk => hk.2) (.int .i64 t369)) (fun _ hk => hk.2) (.slice Ao39 t370.length co39)) (fun _ hk => hk.2) (.slice Ao40 t373.length co40)) (fun _ h_ => h_.1))))) (Kd.R_lt (by (with_reducible repeat (first | apply Kd.R_alloc | apply Kd.R_drewN | apply Kd.R_drew)); exact (Kd.R_mono (Kd.R_far (p := ⟨gb377, 2, none⟩) (Kd.R_far (p := ⟨gb377, 1, none⟩) (Kd.R_far (p := ⟨gb377, 0, none⟩) (Kd.R_types HO375.out BK377.out (by decide)) (fun _ hk => hk.2) (.int .i64 t369)) (fun _ hk => hk.2) (.slice Ao39 t370.length co39)) (fun _ hk => hk.2) (.slice Ao40 t373.length co40)) (fun _ h_ => h_.1))))) (below_size (pB3 HB.out GE353.out GE368.out GE377.out))); have n6_ := Aside0.mk (blk_below (g := gb353) (o := .cells #[.int .i64 a0_0, .slice A0_1 l0_1.length c0_1, .slice A0_2 l0_2.length c0_2] 24 (0, 0)) (by (with_reducible repeat (first | apply bN | apply bD | apply bA)); refine blk_far ?_ NB353_377.out _; (with_reducible repeat (first | apply bN | apply bD | apply bA)); refine blk_far ?_ NB353_377.out _; (with_reducible repeat (first | apply bN | apply bD | apply bA)); refine blk_far ?_ NB353_377.out _; (with_reducible repeat (first | apply bN | apply bD | apply bA)); exact BK353.out) hb); have n7_ := Aside0.mk (blk_below (g := gb368) (o := .cells #[.int .i64 t360, .slice Ao32 t361.length co32, .slice Ao33 t364.length co33] 24 (0, 0)) (by (with_reducible repeat (first | apply bN | apply bD | apply bA)); refine blk_far ?_ NB368_377.out _; (with_reducible repeat (first | apply bN | apply bD | apply bA)); refine blk_far ?_ NB368_377.out _; (with_reducible repeat (first | apply bN | apply bD | apply bA)); refine blk_far ?_ NB368_377.out _; (with_reducible repeat (first | apply bN | apply bD | apply bA)); exact BK368.out) hb); have n8_ := Aside0.mk (blk_below (g := gb377) (o := .cells #[.int .i64 t369, .slice Ao39 t370.length co39, .slice Ao40 t373.length co40] 24 (0, 0)) (by (with_reducible repeat (first | apply bN | apply bD | apply bA)); refine blk_put (cs := #[.int .i64 t369, .slice Ao39 t370.length co39, .slice none 0 0]) ?_ 2 _ rfl; (with_reducible repeat (first | apply bN | apply bD | apply bA)); refine blk_put (cs := #[.int .i64 t369, .slice none 0 0, .slice none 0 0]) ?_ 1 _ rfl; (with_reducible repeat (first | apply bN | apply bD | apply bA)); refine blk_put (cs := #[.int .i64 0, .slice none 0 0, .slice none 0 0]) ?_ 0 _ rfl; (with_reducible repeat (first | apply bN | apply bD | apply bA)); exact BK377.out) hb); have n9_ := Aside0.mk (below_step (pB3 HB.out GE353.out GE368.out GE377.out) hb); clear HO359; clear HO363; clear HO366; clear HO372; clear HO375; clear BK353; clear BK368; clear BK377; clear HB; have HO359 := n0_; have HO363 := n1_; have HO366 := n2_; have HO372 := n3_; have HO375 := n4_; have HO380 := n5_; have BK353 := n6_; have BK368 := n7_; have BK377 := n8_; have HB := n9_; clear n0_ n1_ n2_ n3_ n4_ n5_ n6_ n7_ n8_ n9_; (try clear hb); (try clear hb2); (try clear hk); (try clear hi); (try clear ho0); obtain ⟨Ao49, co49, eo49⟩ := Kd.R_slice HO380.out; subst eo49; obtain ⟨Ao50, co50, eo50⟩ := Kd.R_slice HO359.out; subst eo50) | (go_at_call 20; (with_reducible refine (gradineplain_Ints.calls kj3 _ _ t378 _ _ t357 t381 _ ?side1 ?side2 ?side3 ?side4 A44.out).mono ?_); (case side1 => exact pC (Kd.R_reads' HO380.out).2.2); (case side2 => exact (Kd.R_reads' HO380.out).2.1); (case side3 => exact pC (Kd.R_reads' HO359.out).2.2); (case side4 => exact (Kd.R_reads' HO359.out).2.1); rintro e w' ⟨rfl, ⟨nd, rfl⟩⟩))
       go_meet
       case rel => exact ⟨_, (!t381), (pF), H', ⟨by have := HJ3.out; first | omega | exact Nat.le_refl _⟩, ⟨by (with_reducible repeat (first | apply Kd.R_alloc | apply Kd.R_drewN | apply Kd.R_drew)); exact Kd.R_mono HO359.out (fun _ hk => ⟨hk.1.1.1.1.2, ⟨hk.1.1.1.2, ⟨hk.1.1.2, hk.1.2⟩⟩⟩)⟩, ⟨by (with_reducible repeat (first | apply Kd.R_alloc | apply Kd.R_drewN | apply Kd.R_drew)); exact Kd.R_mono HO363.out (fun _ hk => ⟨hk.1.1.1.2, ⟨hk.1.1.1.1, ⟨hk.1.1.2, hk.1.2⟩⟩⟩)⟩, ⟨by (with_reducible repeat (first | apply Kd.R_alloc | apply Kd.R_drewN | apply Kd.R_drew)); exact Kd.R_mono HO366.out (fun _ hk => ⟨hk.1.1.1.2, ⟨hk.1.1.1.1, ⟨hk.1.1.2, hk.1.2⟩⟩⟩)⟩, ⟨by (with_reducible repeat (first | apply Kd.R_alloc | apply Kd.R_drewN | apply Kd.R_drew)); exact Kd.R_mono HO372.out (fun _ hk => ⟨hk.1.1.1.2, ⟨hk.1.1.2, ⟨hk.1.2, hk.1.1.1.1⟩⟩⟩)⟩, ⟨by (with_reducible repeat (first | apply Kd.R_alloc | apply Kd.R_drewN | apply Kd.R_drew)); exact Kd.R_mono HO375.out (fun _ hk => ⟨hk.1.1.1.2, ⟨hk.1.1.2, ⟨hk.1.2, hk.1.1.1.1⟩⟩⟩)⟩, ⟨by (with_reducible repeat (first | apply bN | apply bD | apply bA)); exact BK353.out⟩, ⟨by (with_reducible repeat (first | apply bN | apply bD | apply bA)); exact BK368.out⟩, ⟨by (with_reducible repeat (first | apply bN | apply bD | apply bA)); exact BK377.out⟩, ⟨pB3 HB.out GE353.out GE368.out GE377.out⟩⟩
      ·rw [if_neg c42] at H
       have c42b0 : (t376 == 0) = false := beq_eq_false_iff_ne.mpr c42
       have c42b1 : (t376 != 0) = true := bne_iff_ne.mpr c42
       have H' := Aside0.mk H
       clear H
       go_wp2
       go_meet
       case rel => exact ⟨_, (true), (pF), H', ⟨by have := HJ3.out; first | omega | exact Nat.le_refl _⟩, ⟨by (with_reducible repeat (first | apply Kd.R_alloc | apply Kd.R_drewN | apply Kd.R_drew)); exact Kd.R_mono (Kd.R_far (p := ⟨gb377, 2, none⟩) (Kd.R_far (p := ⟨gb377, 1, none⟩) (Kd.R_far (p := ⟨gb377, 0, none⟩) (Kd.R_types HO359.out BK377.out (by decide)) (fun _ hk => hk.2) (.int .i64 t369)) (fun _ hk => hk.2) (.slice Ao39 t370.length co39)) (fun _ hk => hk.2) (.slice Ao40 t373.length co40)) (fun _ hk => ⟨hk.1.1.1.1.2, ⟨hk.1.1.1.2, ⟨hk.1.1.2, hk.1.2⟩⟩⟩)⟩, ⟨by (with_reducible repeat (first | apply Kd.R_alloc | apply Kd.R_drewN | apply Kd.R_drew)); exact Kd.R_mono (Kd.R_far (p := ⟨gb377, 2, none⟩) (Kd.R_far (p := ⟨gb377, 1, none⟩) (Kd.R_far (p := ⟨gb377, 0, none⟩) (Kd.R_types HO363.out BK377.out (by decide)) (fun _ hk => hk.2) (.int .i64 t369)) (fun _ hk => hk.2) (.slice Ao39 t370.length co39)) (fun _ hk => hk.2) (.slice Ao40 t373.length co40)) (fun _ hk => ⟨hk.1.1.1.2, ⟨hk.1.1.1.1, ⟨hk.1.1.2, hk.1.2⟩⟩⟩)⟩, ⟨by (with_reducible repeat (first | apply Kd.R_alloc | apply Kd.R_drewN | apply Kd.R_drew)); exact Kd.R_mono (Kd.R_far (p := ⟨gb377, 2, none⟩) (Kd.R_far (p := ⟨gb377, 1, none⟩) (Kd.R_far (p := ⟨gb377, 0, none⟩) (Kd.R_types HO366.out BK377.out (by decide)) (fun _ hk => hk.2) (.int .i64 t369)) (fun _ hk => hk.2) (.slice Ao39 t370.length co39)) (fun _ hk => hk.2) (.slice Ao40 t373.length co40)) (fun _ hk => ⟨hk.1.1.1.2, ⟨hk.1.1.1.1, ⟨hk.1.1.2, hk.1.2⟩⟩⟩)⟩, ⟨by (with_reducible repeat (first | apply Kd.R_alloc | apply Kd.R_drewN | apply Kd.R_drew)); exact Kd.R_mono (Kd.R_far (p := ⟨gb377, 2, none⟩) (Kd.R_far (p := ⟨gb377, 1, none⟩) (Kd.R_far (p := ⟨gb377, 0, none⟩) (Kd.R_types HO372.out BK377.out (by decide)) (fun _ hk => hk.2) (.int .i64 t369)) (fun _ hk => hk.2) (.slice Ao39 t370.length co39)) (fun _ hk => hk.2) (.slice Ao40 t373.length co40)) (fun _ hk => ⟨hk.1.1.1.2, ⟨hk.1.1.2, ⟨hk.1.2, hk.1.1.1.1⟩⟩⟩)⟩, ⟨by (with_reducible repeat (first | apply Kd.R_alloc | apply Kd.R_drewN | apply Kd.R_drew)); exact Kd.R_mono (Kd.R_far (p := ⟨gb377, 2, none⟩) (Kd.R_far (p := ⟨gb377, 1, none⟩) (Kd.R_far (p := ⟨gb377, 0, none⟩) (Kd.R_types HO375.out BK377.out (by decide)) (fun _ hk => hk.2) (.int .i64 t369)) (fun _ hk => hk.2) (.slice Ao39 t370.length co39)) (fun _ hk => hk.2) (.slice Ao40 t373.length co40)) (fun _ hk => ⟨hk.1.1.1.2, ⟨hk.1.1.2, ⟨hk.1.2, hk.1.1.1.1⟩⟩⟩)⟩, ⟨by (with_reducible repeat (first | apply bN | apply bD | apply bA)); refine blk_far ?_ NB353_377.out _; (with_reducible repeat (first | apply bN | apply bD | apply bA)); refine blk_far ?_ NB353_377.out _; (with_reducible repeat (first | apply bN | apply bD | apply bA)); refine blk_far ?_ NB353_377.out _; (with_reducible repeat (first | apply bN | apply bD | apply bA)); exact BK353.out⟩, ⟨by (with_reducible repeat (first | apply bN | apply bD | apply bA)); refine blk_far ?_ NB368_377.out _; (with_reducible repeat (first | apply bN | apply bD | apply bA)); refine blk_far ?_ NB368_377.out _; (with_reducible repeat (first | apply bN | apply bD | apply bA)); refine blk_far ?_ NB368_377.out _; (with_reducible repeat (first | apply bN | apply bD | apply bA)); exact BK368.out⟩, ⟨by (with_reducible repeat (first | apply bN | apply bD | apply bA)); refine blk_put (cs := #[.int .i64 t369, .slice Ao39 t370.length co39, .slice none 0 0]) ?_ 2 _ rfl; (with_reducible repeat (first | apply bN | apply bD | apply bA)); refine blk_put (cs := #[.int .i64 t369, .slice none 0 0, .slice none 0 0]) ?_ 1 _ rfl; (with_reducible repeat (first | apply bN | apply bD | apply bA)); refine blk_put (cs := #[.int .i64 0, .slice none 0 0, .slice none 0 0]) ?_ 0 _ rfl; (with_reducible repeat (first | apply bN | apply bD | apply bA)); exact BK377.out⟩, ⟨pB3 HB.out GE353.out GE368.out GE377.out⟩⟩
     ·rw [if_neg c41] at H
      have c41b0 : (t367 == 0) = false := beq_eq_false_iff_ne.mpr c41
      have c41b1 : (t367 != 0) = true := bne_iff_ne.mpr c41
      (first | rw [c41b0] | (simp only [i64_w, i32_w]; rw [c41b0]) | skip)
      have H' := Aside0.mk H
      clear H
      go_wp2
      go_meet
      case rel => exact ⟨_, (false), (pF), H', ⟨by have := HJ3.out; first | omega | exact Nat.le_refl _⟩, ⟨by (with_reducible repeat (first | apply Kd.R_alloc | apply Kd.R_drewN | apply Kd.R_drew)); exact Kd.R_mono (Kd.R_far (p := ⟨gb377, 2, none⟩) (Kd.R_far (p := ⟨gb377, 1, none⟩) (Kd.R_far (p := ⟨gb377, 0, none⟩) (Kd.R_types HO359.out BK377.out (by decide)) (fun _ hk => hk.2) (.int .i64 t369)) (fun _ hk => hk.2) (.slice Ao39 t370.length co39)) (fun _ hk => hk.2) (.slice Ao40 t373.length co40)) (fun _ hk => ⟨hk.1.1.1.1.2, ⟨hk.1.1.1.2, ⟨hk.1.1.2, hk.1.2⟩⟩⟩)⟩, ⟨by (with_reducible repeat (first | apply Kd.R_alloc | apply Kd.R_drewN | apply Kd.R_drew)); exact Kd.R_mono (Kd.R_far (p := ⟨gb377, 2, none⟩) (Kd.R_far (p := ⟨gb377, 1, none⟩) (Kd.R_far (p := ⟨gb377, 0, none⟩) (Kd.R_types HO363.out BK377.out (by decide)) (fun _ hk => hk.2) (.int .i64 t369)) (fun _ hk => hk.2) (.slice Ao39 t370.length co39)) (fun _ hk => hk.2) (.slice Ao40 t373.length co40)) (fun _ hk => ⟨hk.1.1.1.2, ⟨hk.1.1.1.1, ⟨hk.1.1.2, hk.1.2⟩⟩⟩)⟩, ⟨by (with_reducible repeat (first | apply Kd.R_alloc | apply Kd.R_drewN | apply Kd.R_drew)); exact Kd.R_mono (Kd.R_far (p := ⟨gb377, 2, none⟩) (Kd.R_far (p := ⟨gb377, 1, none⟩) (Kd.R_far (p := ⟨gb377, 0, none⟩) (Kd.R_types HO366.out BK377.out (by decide)) (fun _ hk => hk.2) (.int .i64 t369)) (fun _ hk => hk.2) (.slice Ao39 t370.length co39)) (fun _ hk => hk.2) (.slice Ao40 t373.length co40)) (fun _ hk => ⟨hk.1.1.1.2, ⟨hk.1.1.1.1, ⟨hk.1.1.2, hk.1.2⟩⟩⟩)⟩, ⟨by (with_reducible repeat (first | apply Kd.R_alloc | apply Kd.R_drewN | apply Kd.R_drew)); exact Kd.R_mono (Kd.R_far (p := ⟨gb377, 2, none⟩) (Kd.R_far (p := ⟨gb377, 1, none⟩) (Kd.R_far (p := ⟨gb377, 0, none⟩) (Kd.R_types HO372.out BK377.out (by decide)) (fun _ hk => hk.2) (.int .i64 t369)) (fun _ hk => hk.2) (.slice Ao39 t370.length co39)) (fun _ hk => hk.2) (.slice Ao40 t373.length co40)) (fun _ hk => ⟨hk.1.1.1.2, ⟨hk.1.1.2, ⟨hk.1.2, hk.1.1.1.1⟩⟩⟩)⟩, ⟨by (with_reducible repeat (first | apply Kd.R_alloc | apply Kd.R_drewN | apply Kd.R_drew)); exact Kd.R_mono (Kd.R_far (p := ⟨gb377, 2, none⟩) (Kd.R_far (p := ⟨gb377, 1, none⟩) (Kd.R_far (p := ⟨gb377, 0, none⟩) (Kd.R_types HO375.out BK377.out (by decide)) (fun _ hk => hk.2) (.int .i64 t369)) (fun _ hk => hk.2) (.slice Ao39 t370.length co39)) (fun _ hk => hk.2) (.slice Ao40 t373.length co40)) (fun _ hk => ⟨hk.1.1.1.2, ⟨hk.1.1.2, ⟨hk.1.2, hk.1.1.1.1⟩⟩⟩)⟩, ⟨by (with_reducible repeat (first | apply bN | apply bD | apply bA)); refine blk_far ?_ NB353_377.out _; (with_reducible repeat (first | apply bN | apply bD | apply bA)); refine blk_far ?_ NB353_377.out _; (with_reducible repeat (first | apply bN | apply bD | apply bA)); refine blk_far ?_ NB353_377.out _; (with_reducible repeat (first | apply bN | apply bD | apply bA)); exact BK353.out⟩, ⟨by (with_reducible repeat (first | apply bN | apply bD | apply bA)); refine blk_far ?_ NB368_377.out _; (with_reducible repeat (first | apply bN | apply bD | apply bA)); refine blk_far ?_ NB368_377.out _; (with_reducible repeat (first | apply bN | apply bD | apply bA)); refine blk_far ?_ NB368_377.out _; (with_reducible repeat (first | apply bN | apply bD | apply bA)); exact BK368.out⟩, ⟨by (with_reducible repeat (first | apply bN | apply bD | apply bA)); refine blk_put (cs := #[.int .i64 t369, .slice Ao39 t370.length co39, .slice none 0 0]) ?_ 2 _ rfl; (with_reducible repeat (first | apply bN | apply bD | apply bA)); refine blk_put (cs := #[.int .i64 t369, .slice none 0 0, .slice none 0 0]) ?_ 1 _ rfl; (with_reducible repeat (first | apply bN | apply bD | apply bA)); refine blk_put (cs := #[.int .i64 0, .slice none 0 0, .slice none 0 0]) ?_ 0 _ rfl; (with_reducible repeat (first | apply bN | apply bD | apply bA)); exact BK377.out⟩, ⟨pB3 HB.out GE353.out GE368.out GE377.out⟩⟩
    case rest =>
     clear HC24
     try clear c1
     try clear p2
     try clear c3
     try clear c4
     try clear c7
     try clear c8
     try clear c9
     try clear c10
     try clear c10b0
     try clear c10b1
     try clear c18
     try clear c19
     try clear c30
     try clear c36
     try clear c37
     try clear c41
     try clear c41b0
     try clear c41b1
     try clear c42
     try clear c42b0
     try clear c42b1
     try clear c45
     try clear c46
     try clear hcz11_0
     try clear hcz11_1
     try clear hcz11_2
     try clear hcz14_0
     try clear hcz14_1
     try clear hcz14_2
     try clear hcz16_0
     try clear hcz16_1
     try clear hcz16_2
     try clear hcz25_0
     try clear hcz25_1
     try clear hcz25_2
     try clear hcz27_0
     try clear hcz27_1
     try clear hcz27_2
     try clear hcz31_0
     try clear hcz31_1
     try clear hcz31_2
     try clear hcz38_0
     try clear hcz38_1
     try clear hcz38_2
     try clear hcz47_0
     try clear hcz47_1
     try clear hcz47_2
     try clear hcz8_0
     try clear hcz8_1
     try clear hcz8_2
     try clear hfz11_0
     try clear hfz11_1
     try clear hfz11_2
     try clear hfz14_0
     try clear hfz14_1
     try clear hfz14_2
     try clear hfz16_0
     try clear hfz16_1
     try clear hfz16_2
     try clear hfz25_0
     try clear hfz25_1
     try clear hfz25_2
     try clear hfz27_0
     try clear hfz27_1
     try clear hfz27_2
     try clear hfz31_0
     try clear hfz31_1
     try clear hfz31_2
     try clear hfz38_0
     try clear hfz38_1
     try clear hfz38_2
     try clear hfz47_0
     try clear hfz47_1
     try clear hfz47_2
     try clear hfz8_0
     try clear hfz8_1
     try clear hfz8_2
     try clear p2
     obtain ⟨kq, x57_23, rfl, HA, HJ23, HO_7, HO_369001, HO_369002, HO_378001, HO_378002, BK353, BK368, BK377, HB⟩ := hcut
     cases kq with
     | zero => exact absurd HA.out (by simp [gradinelaw22_ViewTwice.j1])
     | succ kj23 =>
      have H := HA.out
      clear HA
      simp only [gradinelaw22_ViewTwice.j1] at H
      by_cases c51 : x57_23 = true
      ·subst c51
       have H1 : (some false) = some true := by rw [if_pos rfl] at H; exact H
       clear H
       have H := H1
       clear H1
       exact absurd H (by simp)
      ·replace c51 := Bool.eq_false_iff.mpr c51
       subst c51
       have H1 : ((view_Permute.f kj23 a0_0 l0_1 l0_2 l1).bind fun bt382 => ((gradinelaw22_back.f kj23 l1).bind fun t391 => ((view_Permute.f kj23 bt382.1 bt382.2.1 bt382.2.2.1 t391).bind fun bt394 => (if bt382.2.2.2 = 0 then (if bt394.2.2.2 = 0 then ((gradineref22_Cells.f kj23 bt394.1 bt394.2.1 bt394.2.2.1 64).bind fun t403 => ((gradineplain_Ints.f kj23 t403 t357).bind fun t406 => (gradinelaw22_ViewTwice.j2 kj23 t357 t367 bt382.2.2.2 (!t406) t360 t361 t364 bt382.1 bt382.2.1 bt382.2.2.1))) else (gradinelaw22_ViewTwice.j2 kj23 t357 t367 bt382.2.2.2 true t360 t361 t364 bt382.1 bt382.2.1 bt382.2.2.1)) else (gradinelaw22_ViewTwice.j2 kj23 t357 t367 bt382.2.2.2 false t360 t361 t364 bt382.1 bt382.2.1 bt382.2.2.1))))) = some true := by rw [if_neg (show ¬ (false = true) by decide)] at H; exact H
       clear H
       have H := H1
       clear H1
       replace H := Option.bind_eq_some_iff.mp H
       obtain ⟨⟨t382, t383, t386, t389⟩, A520, H⟩ := H
       replace H : ((gradinelaw22_back.f kj23 l1).bind fun t391 => ((view_Permute.f kj23 t382 t383 t386 t391).bind fun bt394 => (if t389 = 0 then (if bt394.2.2.2 = 0 then ((gradineref22_Cells.f kj23 bt394.1 bt394.2.1 bt394.2.2.1 64).bind fun t403 => ((gradineplain_Ints.f kj23 t403 t357).bind fun t406 => (gradinelaw22_ViewTwice.j2 kj23 t357 t367 t389 (!t406) t360 t361 t364 t382 t383 t386))) else (gradinelaw22_ViewTwice.j2 kj23 t357 t367 t389 true t360 t361 t364 t382 t383 t386)) else (gradinelaw22_ViewTwice.j2 kj23 t357 t367 t389 false t360 t361 t364 t382 t383 t386)))) = some true := H
       have A52 := Aside0.mk A520
       clear A520
       replace H := Option.bind_eq_some_iff.mp H
       obtain ⟨t391, A530, H⟩ := H
       replace H : ((view_Permute.f kj23 t382 t383 t386 t391).bind fun bt394 => (if t389 = 0 then (if bt394.2.2.2 = 0 then ((gradineref22_Cells.f kj23 bt394.1 bt394.2.1 bt394.2.2.1 64).bind fun t403 => ((gradineplain_Ints.f kj23 t403 t357).bind fun t406 => (gradinelaw22_ViewTwice.j2 kj23 t357 t367 t389 (!t406) t360 t361 t364 t382 t383 t386))) else (gradinelaw22_ViewTwice.j2 kj23 t357 t367 t389 true t360 t361 t364 t382 t383 t386)) else (gradinelaw22_ViewTwice.j2 kj23 t357 t367 t389 false t360 t361 t364 t382 t383 t386))) = some true := H
       have A53 := Aside0.mk A530
       clear A530
       replace H := Option.bind_eq_some_iff.mp H
       obtain ⟨⟨t394, t395, t398, t401⟩, A540, H⟩ := H
       replace H : (if t389 = 0 then (if t401 = 0 then ((gradineref22_Cells.f kj23 t394 t395 t398 64).bind fun t403 => ((gradineplain_Ints.f kj23 t403 t357).bind fun t406 => (gradinelaw22_ViewTwice.j2 kj23 t357 t367 t389 (!t406) t360 t361 t364 t382 t383 t386))) else (gradinelaw22_ViewTwice.j2 kj23 t357 t367 t389 true t360 t361 t364 t382 t383 t386)) else (gradinelaw22_ViewTwice.j2 kj23 t357 t367 t389 false t360 t361 t364 t382 t383 t386)) = some true := H
       have A54 := Aside0.mk A540
       clear A540
       have HC55 := Aside0.mk H
       clear H
       have hnb56 := NB353_368.out
       have hnc56 := NB368_353.out
       have hnb57 := NB353_377.out
       have hnc57 := NB377_353.out
       have hcz58_0 : wc.cell? ⟨gb353, 0, none⟩ = some (.int .i64 a0_0) := (blk_cell BK353.out 0).trans rfl
       have hcz58_1 : wc.cell? ⟨gb353, 1, none⟩ = some (.slice A0_1 l0_1.length c0_1) := (blk_cell BK353.out 1).trans rfl
       have hcz58_2 : wc.cell? ⟨gb353, 2, none⟩ = some (.slice A0_2 l0_2.length c0_2) := (blk_cell BK353.out 2).trans rfl
       have hfz58_0 := blk_frozen BK353.out 0
       have hfz58_1 := blk_frozen BK353.out 1
       have hfz58_2 := blk_frozen BK353.out 2
       try go_wp2_with (first | ((with_reducible refine gate_callee (f := 21) rfl ?_); refine goesL_ (some 61) rfl rfl Try.func21 (by kernel_rfl) rfl #[.agg #[.int .i64 a0_0, .slice A0_1 l0_1.length c0_1, .slice A0_2 l0_2.length c0_2], .slice A1 l1.length c1] rfl pA ?_; (with_reducible refine (view_Permute.calls kj23 a0_0 _ _ l0_1 _ _ l0_2 _ _ l1 t382 t383 t386 t389 _ ?side1 ?side2 ?side3 ?side4 ?side5 ?side6 A52.out).mono ?_); (case side1 => exact pC (Kd.C_below HR0_1.out HB.out)); (case side2 => exact HC0_1.out); (case side3 => exact pC (Kd.C_below HR0_2.out HB.out)); (case side4 => exact HC0_2.out); (case side5 => exact pC (Kd.C_below HR1.out HB.out)); (case side6 => exact HC1.out); rintro e w59 ⟨v384, v387, rfl, ho0, ho1, hb⟩; refine ⟨_, rfl, ?_⟩; have n0_ := Aside0.mk (Kd.R_mono (Kd.R_told (Kd.R_told (Kd.R_old (pR HO_7.out) hb) (Kd.R_base ho0)) (Kd.R_base ho1)) (fun _ h_ => h_.1)); have n1_ := Aside0.mk (Kd.R_mono (Kd.R_told (Kd.R_told (Kd.R_old (pR HO_369001.out) hb) (Kd.R_base ho0)) (Kd.R_base ho1)) (fun _ h_ => h_.1)); have n2_ := Aside0.mk (Kd.R_mono (Kd.R_told (Kd.R_told (Kd.R_old (pR HO_369002.out) hb) (Kd.R_base ho0)) (Kd.R_base ho1)) (fun _ h_ => h_.1)); have n3_ := Aside0.mk (Kd.R_mono (Kd.R_told (Kd.R_told (Kd.R_old (pR HO_378001.out) hb) (Kd.R_base ho0)) (Kd.R_base ho1)) (fun _ h_ => h_.1)); have n4_ := Aside0.mk (Kd.R_mono (Kd.R_told (Kd.R_told (Kd.R_old (pR HO_378002.out) hb) (Kd.R_base ho0)) (Kd.R_base ho1)) (fun _ h_ => h_.1)); have n5_ := Aside0.mk (Kd.R_lower (Kd.R_new' (Kd.R_new' (Kd.R_new' (Kd.R_new' (Kd.R_new' ho0 (Kd.R_lt (pR HO_7.out))) (Kd.R_lt (pR HO_369001.out))) (Kd.R_lt (pR HO_369002.out))) (Kd.R_lt (pR HO_378001.out))) (Kd.R_lt (pR HO_378002.out))) (below_size (pB3 HB.out GE353.out GE368.out GE377.out))); have n6_ := Aside0.mk (Kd.R_lower (Kd.R_new' (Kd.R_new' (Kd.R_new' (Kd.R_new' (Kd.R_new' ho1 (Kd.R_lt (pR HO_7.out))) (Kd.R_lt (pR HO_369001.out))) (Kd.R_lt (pR HO_369002.out))) (Kd.R_lt (pR HO_378001.out))) (Kd.R_lt (pR HO_378002.out))) (below_size (pB3 HB.out GE353.out GE368.out GE377.out))); have n7_ := Aside0.mk (blk_below (g := gb353) (pK BK353.out) hb); have n8_ := Aside0.mk (blk_below (g := gb368) (pK BK368.out) hb); have n9_ := Aside0.mk (blk_below (g := gb377) (pK BK377.out) hb); have n10_ := Aside0.mk (below_step (pB3 HB.out GE353.out GE368.out GE377.out) hb); clear HO_7; clear HO_369001; clear HO_369002; clear HO_378001; clear HO_378002; clear BK353; clear BK368; clear BK377; clear HB; have HO_7 := n0_; have HO_369001 := n1_; have HO_369002 := n2_; have HO_378001 := n3_; have HO_378002 := n4_; have HO385 := n5_; have HO388 := n6_; have BK353 := n7_; have BK368 := n8_; have BK377 := n9_; have HB := n10_; clear n0_ n1_ n2_ n3_ n4_ n5_ n6_ n7_ n8_ n9_ n10_; (try clear hb); (try clear hb2); (try clear hk); (try clear hi); (try clear ho0); (try clear ho1)) | ((with_reducible refine gate_dst (N := 12) rfl ?_); (try (refine gate_guard (by rfl) ?_; dsimp only)); refine box_event ?hg (N := 12) ?hd (cs := #[.int .i64 0, .slice none 0 0, .slice none 0 0]) (t := 24) ?hr ?_; (case hd => rfl); (case hg => rfl); (case hr => first | (go_simp; done) | (go_simp; rfl)); intro gb390 hg w60 hbox hb; have n0_ := Aside0.mk (Kd.R_below (pR HO_7.out) hb); have n1_ := Aside0.mk (Kd.R_below (pR HO_369001.out) hb); have n2_ := Aside0.mk (Kd.R_below (pR HO_369002.out) hb); have n3_ := Aside0.mk (Kd.R_below (pR HO_378001.out) hb); have n4_ := Aside0.mk (Kd.R_below (pR HO_378002.out) hb); have n5_ := Aside0.mk (Kd.R_below (pR HO385.out) hb); have n6_ := Aside0.mk (Kd.R_below (pR HO388.out) hb); have n7_ := Aside0.mk (blk_below (g := gb353) (pK BK353.out) hb); have n8_ := Aside0.mk (blk_below (g := gb368) (pK BK368.out) hb); have n9_ := Aside0.mk (blk_below (g := gb377) (pK BK377.out) hb); have n10_ := Aside0.mk (below_step (pB3 HB.out GE353.out GE368.out GE377.out) hb); have n11_ := Aside0.mk (hbox); have n12_ := Aside0.mk ((by rw [hg]; exact (below_size (pB3 HB.out GE353.out GE368.out GE377.out)) : w.heap.size ≤ gb390)); have n13_ := Aside0.mk ((by rw [hg]; exact (below_size (pB3 HB.out GE353.out GE368.out GE377.out)) : w.heap.size ≤ gb390)); have n14_ := Aside0.mk ((by rw [hg]; exact Nat.ne_of_lt (blk_lt (g := gb353) (pK BK353.out)) : gb353 ≠ gb390)); have n15_ := Aside0.mk ((by rw [hg]; exact Nat.ne_of_gt (blk_lt (g := gb353) (pK BK353.out)) : gb390 ≠ gb353)); have n16_ := Aside0.mk ((by rw [hg]; exact Nat.ne_of_lt (blk_lt (g := gb368) (pK BK368.out)) : gb368 ≠ gb390)); have n17_ := Aside0.mk ((by rw [hg]; exact Nat.ne_of_gt (blk_lt (g := gb368) (pK BK368.out)) : gb390 ≠ gb368)); have n18_ := Aside0.mk ((by rw [hg]; exact Nat.ne_of_lt (blk_lt (g := gb377) (pK BK377.out)) : gb377 ≠ gb390)); have n19_ := Aside0.mk ((by rw [hg]; exact Nat.ne_of_gt (blk_lt (g := gb377) (pK BK377.out)) : gb390 ≠ gb377)); clear HO_7; clear HO_369001; clear HO_369002; clear HO_378001; clear HO_378002; clear HO385; clear HO388; clear BK353; clear BK368; clear BK377; clear HB; have HO_7 := n0_; have HO_369001 := n1_; have HO_369002 := n2_; have HO_378001 := n3_; have HO_378002 := n4_; have HO385 := n5_; have HO388 := n6_; have BK353 := n7_; have BK368 := n8_; have BK377 := n9_; have HB := n10_; have BK390 := n11_; have GW390 := n12_; have GE390 := n13_; have NB353_390 := n14_; have NB390_353 := n15_; have NB368_390 := n16_; have NB390_368 := n17_; have NB377_390 := n18_; have NB390_377 := n19_; clear n0_ n1_ n2_ n3_ n4_ n5_ n6_ n7_ n8_ n9_ n10_ n11_ n12_ n13_ n14_ n15_ n16_ n17_ n18_ n19_; clear hb hbox hg; have hnb61 := NB390_353.out; have hnc61 := NB353_390.out; have hnb62 := NB390_368.out; have hnc62 := NB368_390.out; have hnb63 := NB390_377.out; have hnc63 := NB377_390.out; have hcz64_0 : w60.cell? ⟨gb390, 0, none⟩ = some (.int .i64 0) := (blk_cell BK390.out 0).trans rfl; have hcz64_1 : w60.cell? ⟨gb390, 1, none⟩ = some (.slice none 0 0) := (blk_cell BK390.out 1).trans rfl; have hcz64_2 : w60.cell? ⟨gb390, 2, none⟩ = some (.slice none 0 0) := (blk_cell BK390.out 2).trans rfl; have hfz64_0 := blk_frozen BK390.out 0; have hfz64_1 := blk_frozen BK390.out 1; have hfz64_2 := blk_frozen BK390.out 2; obtain ⟨Ao65, co65, eo65⟩ := Kd.R_slice HO385.out; subst eo65; obtain ⟨Ao66, co66, eo66⟩ := Kd.R_slice HO388.out; subst eo66))
       have n0_ : Aside0 (Kd.R (Kd.int .i64) 3 (((w60.setCell ⟨gb390, 0, none⟩ (.int .i64 t382)).setCell ⟨gb390, 1, none⟩ (.slice Ao65 t383.length co65)).setCell ⟨gb390, 2, none⟩ (.slice Ao66 t386.length co66)) w.heap.size (fun k_ => some k_ ≠ (.slice Ao32 t361.length co32 : Value).ownBlock ∧ some k_ ≠ (.slice Ao33 t364.length co33 : Value).ownBlock ∧ some k_ ≠ (.slice Ao39 t370.length co39 : Value).ownBlock ∧ some k_ ≠ (.slice Ao40 t373.length co40 : Value).ownBlock ∧ some k_ ≠ (.slice Ao65 t383.length co65 : Value).ownBlock ∧ some k_ ≠ (.slice Ao66 t386.length co66 : Value).ownBlock) v358 t357) := ⟨by (with_reducible repeat (first | apply Kd.R_alloc | apply Kd.R_drewN | apply Kd.R_drew)); exact Kd.R_mono (Kd.R_far (p := ⟨gb390, 2, none⟩) (Kd.R_far (p := ⟨gb390, 1, none⟩) (Kd.R_far (p := ⟨gb390, 0, none⟩) (Kd.R_types HO_7.out BK390.out (by decide)) (fun _ hk => hk.2) (.int .i64 t382)) (fun _ hk => hk.2) (.slice Ao65 t383.length co65)) (fun _ hk => hk.2) (.slice Ao66 t386.length co66)) (fun _ hk => ⟨hk.1.1.1.1, ⟨hk.1.1.1.2.1, ⟨hk.1.1.1.2.2.1, ⟨hk.1.1.1.2.2.2, ⟨hk.1.1.2, hk.1.2⟩⟩⟩⟩⟩)⟩
       have n1_ : Aside0 (Kd.R (Kd.int .i64) 3 (((w60.setCell ⟨gb390, 0, none⟩ (.int .i64 t382)).setCell ⟨gb390, 1, none⟩ (.slice Ao65 t383.length co65)).setCell ⟨gb390, 2, none⟩ (.slice Ao66 t386.length co66)) w.heap.size (fun k_ => some k_ ≠ (v358 : Value).ownBlock ∧ some k_ ≠ (.slice Ao33 t364.length co33 : Value).ownBlock ∧ some k_ ≠ (.slice Ao39 t370.length co39 : Value).ownBlock ∧ some k_ ≠ (.slice Ao40 t373.length co40 : Value).ownBlock ∧ some k_ ≠ (.slice Ao65 t383.length co65 : Value).ownBlock ∧ some k_ ≠ (.slice Ao66 t386.length co66 : Value).ownBlock) (.slice Ao32 t361.length co32) t361) := ⟨by (with_reducible repeat (first | apply Kd.R_alloc | apply Kd.R_drewN | apply Kd.R_drew)); exact Kd.R_mono (Kd.R_far (p := ⟨gb390, 2, none⟩) (Kd.R_far (p := ⟨gb390, 1, none⟩) (Kd.R_far (p := ⟨gb390, 0, none⟩) (Kd.R_types HO_369001.out BK390.out (by decide)) (fun _ hk => hk.2) (.int .i64 t382)) (fun _ hk => hk.2) (.slice Ao65 t383.length co65)) (fun _ hk => hk.2) (.slice Ao66 t386.length co66)) (fun _ hk => ⟨hk.1.1.1.1, ⟨hk.1.1.1.2.1, ⟨hk.1.1.1.2.2.1, ⟨hk.1.1.1.2.2.2, ⟨hk.1.1.2, hk.1.2⟩⟩⟩⟩⟩)⟩
       have n2_ : Aside0 (Kd.R (Kd.int .i64) 3 (((w60.setCell ⟨gb390, 0, none⟩ (.int .i64 t382)).setCell ⟨gb390, 1, none⟩ (.slice Ao65 t383.length co65)).setCell ⟨gb390, 2, none⟩ (.slice Ao66 t386.length co66)) w.heap.size (fun k_ => some k_ ≠ (v358 : Value).ownBlock ∧ some k_ ≠ (.slice Ao32 t361.length co32 : Value).ownBlock ∧ some k_ ≠ (.slice Ao39 t370.length co39 : Value).ownBlock ∧ some k_ ≠ (.slice Ao40 t373.length co40 : Value).ownBlock ∧ some k_ ≠ (.slice Ao65 t383.length co65 : Value).ownBlock ∧ some k_ ≠ (.slice Ao66 t386.length co66 : Value).ownBlock) (.slice Ao33 t364.length co33) t364) := ⟨by (with_reducible repeat (first | apply Kd.R_alloc | apply Kd.R_drewN | apply Kd.R_drew)); exact Kd.R_mono (Kd.R_far (p := ⟨gb390, 2, none⟩) (Kd.R_far (p := ⟨gb390, 1, none⟩) (Kd.R_far (p := ⟨gb390, 0, none⟩) (Kd.R_types HO_369002.out BK390.out (by decide)) (fun _ hk => hk.2) (.int .i64 t382)) (fun _ hk => hk.2) (.slice Ao65 t383.length co65)) (fun _ hk => hk.2) (.slice Ao66 t386.length co66)) (fun _ hk => ⟨hk.1.1.1.1, ⟨hk.1.1.1.2.1, ⟨hk.1.1.1.2.2.1, ⟨hk.1.1.1.2.2.2, ⟨hk.1.1.2, hk.1.2⟩⟩⟩⟩⟩)⟩
       have n3_ : Aside0 (Kd.R (Kd.int .i64) 3 (((w60.setCell ⟨gb390, 0, none⟩ (.int .i64 t382)).setCell ⟨gb390, 1, none⟩ (.slice Ao65 t383.length co65)).setCell ⟨gb390, 2, none⟩ (.slice Ao66 t386.length co66)) w.heap.size (fun k_ => some k_ ≠ (v358 : Value).ownBlock ∧ some k_ ≠ (.slice Ao32 t361.length co32 : Value).ownBlock ∧ some k_ ≠ (.slice Ao33 t364.length co33 : Value).ownBlock ∧ some k_ ≠ (.slice Ao40 t373.length co40 : Value).ownBlock ∧ some k_ ≠ (.slice Ao65 t383.length co65 : Value).ownBlock ∧ some k_ ≠ (.slice Ao66 t386.length co66 : Value).ownBlock) (.slice Ao39 t370.length co39) t370) := ⟨by (with_reducible repeat (first | apply Kd.R_alloc | apply Kd.R_drewN | apply Kd.R_drew)); exact Kd.R_mono (Kd.R_far (p := ⟨gb390, 2, none⟩) (Kd.R_far (p := ⟨gb390, 1, none⟩) (Kd.R_far (p := ⟨gb390, 0, none⟩) (Kd.R_types HO_378001.out BK390.out (by decide)) (fun _ hk => hk.2) (.int .i64 t382)) (fun _ hk => hk.2) (.slice Ao65 t383.length co65)) (fun _ hk => hk.2) (.slice Ao66 t386.length co66)) (fun _ hk => ⟨hk.1.1.1.1, ⟨hk.1.1.1.2.1, ⟨hk.1.1.1.2.2.1, ⟨hk.1.1.1.2.2.2, ⟨hk.1.1.2, hk.1.2⟩⟩⟩⟩⟩)⟩
       have n4_ : Aside0 (Kd.R (Kd.int .i64) 3 (((w60.setCell ⟨gb390, 0, none⟩ (.int .i64 t382)).setCell ⟨gb390, 1, none⟩ (.slice Ao65 t383.length co65)).setCell ⟨gb390, 2, none⟩ (.slice Ao66 t386.length co66)) w.heap.size (fun k_ => some k_ ≠ (v358 : Value).ownBlock ∧ some k_ ≠ (.slice Ao32 t361.length co32 : Value).ownBlock ∧ some k_ ≠ (.slice Ao33 t364.length co33 : Value).ownBlock ∧ some k_ ≠ (.slice Ao39 t370.length co39 : Value).ownBlock ∧ some k_ ≠ (.slice Ao65 t383.length co65 : Value).ownBlock ∧ some k_ ≠ (.slice Ao66 t386.length co66 : Value).ownBlock) (.slice Ao40 t373.length co40) t373) := ⟨by (with_reducible repeat (first | apply Kd.R_alloc | apply Kd.R_drewN | apply Kd.R_drew)); exact Kd.R_mono (Kd.R_far (p := ⟨gb390, 2, none⟩) (Kd.R_far (p := ⟨gb390, 1, none⟩) (Kd.R_far (p := ⟨gb390, 0, none⟩) (Kd.R_types HO_378002.out BK390.out (by decide)) (fun _ hk => hk.2) (.int .i64 t382)) (fun _ hk => hk.2) (.slice Ao65 t383.length co65)) (fun _ hk => hk.2) (.slice Ao66 t386.length co66)) (fun _ hk => ⟨hk.1.1.1.1, ⟨hk.1.1.1.2.1, ⟨hk.1.1.1.2.2.1, ⟨hk.1.1.1.2.2.2, ⟨hk.1.1.2, hk.1.2⟩⟩⟩⟩⟩)⟩
       have n5_ : Aside0 (Kd.R (Kd.int .i64) 3 (((w60.setCell ⟨gb390, 0, none⟩ (.int .i64 t382)).setCell ⟨gb390, 1, none⟩ (.slice Ao65 t383.length co65)).setCell ⟨gb390, 2, none⟩ (.slice Ao66 t386.length co66)) w.heap.size (fun k_ => some k_ ≠ (v358 : Value).ownBlock ∧ some k_ ≠ (.slice Ao32 t361.length co32 : Value).ownBlock ∧ some k_ ≠ (.slice Ao33 t364.length co33 : Value).ownBlock ∧ some k_ ≠ (.slice Ao39 t370.length co39 : Value).ownBlock ∧ some k_ ≠ (.slice Ao40 t373.length co40 : Value).ownBlock ∧ some k_ ≠ (.slice Ao66 t386.length co66 : Value).ownBlock) (.slice Ao65 t383.length co65) t383) := ⟨by (with_reducible repeat (first | apply Kd.R_alloc | apply Kd.R_drewN | apply Kd.R_drew)); exact Kd.R_mono (Kd.R_far (p := ⟨gb390, 2, none⟩) (Kd.R_far (p := ⟨gb390, 1, none⟩) (Kd.R_far (p := ⟨gb390, 0, none⟩) (Kd.R_types HO385.out BK390.out (by decide)) (fun _ hk => hk.2) (.int .i64 t382)) (fun _ hk => hk.2) (.slice Ao65 t383.length co65)) (fun _ hk => hk.2) (.slice Ao66 t386.length co66)) (fun _ hk => ⟨hk.1.1.1.1.1.2, ⟨hk.1.1.1.1.2, ⟨hk.1.1.1.2, ⟨hk.1.1.2, ⟨hk.1.2, hk.1.1.1.1.1.1⟩⟩⟩⟩⟩)⟩
       have n6_ : Aside0 (Kd.R (Kd.int .i64) 3 (((w60.setCell ⟨gb390, 0, none⟩ (.int .i64 t382)).setCell ⟨gb390, 1, none⟩ (.slice Ao65 t383.length co65)).setCell ⟨gb390, 2, none⟩ (.slice Ao66 t386.length co66)) w.heap.size (fun k_ => some k_ ≠ (v358 : Value).ownBlock ∧ some k_ ≠ (.slice Ao32 t361.length co32 : Value).ownBlock ∧ some k_ ≠ (.slice Ao33 t364.length co33 : Value).ownBlock ∧ some k_ ≠ (.slice Ao39 t370.length co39 : Value).ownBlock ∧ some k_ ≠ (.slice Ao40 t373.length co40 : Value).ownBlock ∧ some k_ ≠ (.slice Ao65 t383.length co65 : Value).ownBlock) (.slice Ao66 t386.length co66) t386) := ⟨by (with_reducible repeat (first | apply Kd.R_alloc | apply Kd.R_drewN | apply Kd.R_drew)); exact Kd.R_mono (Kd.R_far (p := ⟨gb390, 2, none⟩) (Kd.R_far (p := ⟨gb390, 1, none⟩) (Kd.R_far (p := ⟨gb390, 0, none⟩) (Kd.R_types HO388.out BK390.out (by decide)) (fun _ hk => hk.2) (.int .i64 t382)) (fun _ hk => hk.2) (.slice Ao65 t383.length co65)) (fun _ hk => hk.2) (.slice Ao66 t386.length co66)) (fun _ hk => ⟨hk.1.1.1.1.1.2, ⟨hk.1.1.1.1.2, ⟨hk.1.1.1.2, ⟨hk.1.1.2, ⟨hk.1.2, hk.1.1.1.1.1.1⟩⟩⟩⟩⟩)⟩
       have n7_ : Aside0 ((((w60.setCell ⟨gb390, 0, none⟩ (.int .i64 t382)).setCell ⟨gb390, 1, none⟩ (.slice Ao65 t383.length co65)).setCell ⟨gb390, 2, none⟩ (.slice Ao66 t386.length co66)).heap[gb353]? = some (.cells #[.int .i64 a0_0, .slice A0_1 l0_1.length c0_1, .slice A0_2 l0_2.length c0_2] 24 (0, 0))) := ⟨by (with_reducible repeat (first | apply bN | apply bD | apply bA)); refine blk_far ?_ NB353_390.out _; (with_reducible repeat (first | apply bN | apply bD | apply bA)); refine blk_far ?_ NB353_390.out _; (with_reducible repeat (first | apply bN | apply bD | apply bA)); refine blk_far ?_ NB353_390.out _; (with_reducible repeat (first | apply bN | apply bD | apply bA)); exact BK353.out⟩
       have n8_ : Aside0 ((((w60.setCell ⟨gb390, 0, none⟩ (.int .i64 t382)).setCell ⟨gb390, 1, none⟩ (.slice Ao65 t383.length co65)).setCell ⟨gb390, 2, none⟩ (.slice Ao66 t386.length co66)).heap[gb368]? = some (.cells #[.int .i64 t360, .slice Ao32 t361.length co32, .slice Ao33 t364.length co33] 24 (0, 0))) := ⟨by (with_reducible repeat (first | apply bN | apply bD | apply bA)); refine blk_far ?_ NB368_390.out _; (with_reducible repeat (first | apply bN | apply bD | apply bA)); refine blk_far ?_ NB368_390.out _; (with_reducible repeat (first | apply bN | apply bD | apply bA)); refine blk_far ?_ NB368_390.out _; (with_reducible repeat (first | apply bN | apply bD | apply bA)); exact BK368.out⟩
       have n9_ : Aside0 ((((w60.setCell ⟨gb390, 0, none⟩ (.int .i64 t382)).setCell ⟨gb390, 1, none⟩ (.slice Ao65 t383.length co65)).setCell ⟨gb390, 2, none⟩ (.slice Ao66 t386.length co66)).heap[gb377]? = some (.cells #[.int .i64 t369, .slice Ao39 t370.length co39, .slice Ao40 t373.length co40] 24 (0, 0))) := ⟨by (with_reducible repeat (first | apply bN | apply bD | apply bA)); refine blk_far ?_ NB377_390.out _; (with_reducible repeat (first | apply bN | apply bD | apply bA)); refine blk_far ?_ NB377_390.out _; (with_reducible repeat (first | apply bN | apply bD | apply bA)); refine blk_far ?_ NB377_390.out _; (with_reducible repeat (first | apply bN | apply bD | apply bA)); exact BK377.out⟩
       have n10_ : Aside0 ((((w60.setCell ⟨gb390, 0, none⟩ (.int .i64 t382)).setCell ⟨gb390, 1, none⟩ (.slice Ao65 t383.length co65)).setCell ⟨gb390, 2, none⟩ (.slice Ao66 t386.length co66)).heap[gb390]? = some (.cells #[.int .i64 t382, .slice Ao65 t383.length co65, .slice Ao66 t386.length co66] 24 (0, 0))) := ⟨by (with_reducible repeat (first | apply bN | apply bD | apply bA)); refine blk_put (cs := #[.int .i64 t382, .slice Ao65 t383.length co65, .slice none 0 0]) ?_ 2 _ rfl; (with_reducible repeat (first | apply bN | apply bD | apply bA)); refine blk_put (cs := #[.int .i64 t382, .slice none 0 0, .slice none 0 0]) ?_ 1 _ rfl; (with_reducible repeat (first | apply bN | apply bD | apply bA)); refine blk_put (cs := #[.int .i64 0, .slice none 0 0, .slice none 0 0]) ?_ 0 _ rfl; (with_reducible repeat (first | apply bN | apply bD | apply bA)); exact BK390.out⟩
       have n11_ : Aside0 (Below w.heap.size w (((w60.setCell ⟨gb390, 0, none⟩ (.int .i64 t382)).setCell ⟨gb390, 1, none⟩ (.slice Ao65 t383.length co65)).setCell ⟨gb390, 2, none⟩ (.slice Ao66 t386.length co66))) := ⟨pB4 HB.out GE353.out GE368.out GE377.out GE390.out⟩
       (try clear HO_7)
       (try clear HO_369001)
       (try clear HO_369002)
       (try clear HO_378001)
       (try clear HO_378002)
       (try clear HO385)
       (try clear HO388)
       (try clear BK353)
       (try clear BK368)
       (try clear BK377)
       (try clear BK390)
       (try clear HB)
       generalize (((w60.setCell ⟨gb390, 0, none⟩ (.int .i64 t382)).setCell ⟨gb390, 1, none⟩ (.slice Ao65 t383.length co65)).setCell ⟨gb390, 2, none⟩ (.slice Ao66 t386.length co66)) = w67 at n0_ n1_ n2_ n3_ n4_ n5_ n6_ n7_ n8_ n9_ n10_ n11_ ⊢
       have HO_7 := n0_
       have HO_369001 := n1_
       have HO_369002 := n2_
       have HO_378001 := n3_
       have HO_378002 := n4_
       have HO385 := n5_
       have HO388 := n6_
       have BK353 := n7_
       have BK368 := n8_
       have BK377 := n9_
       have BK390 := n10_
       have HB := n11_
       clear n0_ n1_ n2_ n3_ n4_ n5_ n6_ n7_ n8_ n9_ n10_ n11_
       have n0_ := Aside0.mk (Kd.R_drew HO_7.out)
       have n1_ := Aside0.mk (Kd.R_drew HO_369001.out)
       have n2_ := Aside0.mk (Kd.R_drew HO_369002.out)
       have n3_ := Aside0.mk (Kd.R_drew HO_378001.out)
       have n4_ := Aside0.mk (Kd.R_drew HO_378002.out)
       have n5_ := Aside0.mk (Kd.R_drew HO385.out)
       have n6_ := Aside0.mk (Kd.R_drew HO388.out)
       have n7_ := Aside0.mk (blk_drew BK353.out)
       have n8_ := Aside0.mk (blk_drew BK368.out)
       have n9_ := Aside0.mk (blk_drew BK377.out)
       have n10_ := Aside0.mk (blk_drew BK390.out)
       have n11_ := Aside0.mk (below_drew1 HB.out)
       clear HO_7
       clear HO_369001
       clear HO_369002
       clear HO_378001
       clear HO_378002
       clear HO385
       clear HO388
       clear BK353
       clear BK368
       clear BK377
       clear BK390
       clear HB
       have HO_7 := n0_
       have HO_369001 := n1_
       have HO_369002 := n2_
       have HO_378001 := n3_
       have HO_378002 := n4_
       have HO385 := n5_
       have HO388 := n6_
       have BK353 := n7_
       have BK368 := n8_
       have BK377 := n9_
       have BK390 := n10_
       have HB := n11_
       clear n0_ n1_ n2_ n3_ n4_ n5_ n6_ n7_ n8_ n9_ n10_ n11_
       refine start_ (n := 10) (S := fun w' => w'.cell? ⟨gb390, 0, none⟩ = some (.int .i64 t382) ∧ w'.cell? ⟨gb390, 1, none⟩ = some (.slice Ao65 t383.length co65) ∧ w'.cell? ⟨gb390, 2, none⟩ = some (.slice Ao66 t386.length co66)) (ds := []) #[false, false, false, false, false, false, false, false, false, false] (by kernel_rfl) rfl rfl ⟨(blk_cell BK390.out 0).trans rfl, (blk_cell BK390.out 1).trans rfl, (blk_cell BK390.out 2).trans rfl⟩ (fun hHeld => ?_); refine with_tabW gradinelaw22_ViewTwice.tab9 gradinelaw22_ViewTwice.bits9 (fun HT_ HW_ => ?_)
       generalize w67.drew = w68 at HO_7 HO_369001 HO_369002 HO_378001 HO_378002 HO385 HO388 BK353 BK368 BK377 BK390 HB hHeld ⊢
       refine pP (i := 1) (N := some 66) #[false, true, false, false, false, false, false, false, false, false] rfl rfl HT_.out ?_
       refine pT (i := 0) (N := some 65) #[true, true, false, false, false, false, false, false, false, false] rfl rfl HT_.out HW_.out hHeld (by rintro w' ⟨s0, s1, s2⟩; go_simp; with_reducible rfl) ?_
       refine join_ (σ := Value × Value × Value × Nat) 2 #[true, true, true, true, true, true, true, true, false, false] (fun s_ => [(67, s_.1), (68, .tuple #[.agg #[.int .i64 t394, s_.2.1, s_.2.2.1], .int .i64 t401]), (14, .pointer (some ⟨s_.2.2.2, 0, none⟩)), (64, .tuple #[.agg #[.int .i64 t394, s_.2.1, s_.2.2.1], .int .i64 t401]), (69, .agg #[.int .i64 t394, s_.2.1, s_.2.2.1]), (70, .int .i64 t401)]) (fun s_ w' => (w'.cell? ⟨gb390, 0, none⟩ = some (.int .i64 t382) ∧ w'.cell? ⟨gb390, 1, none⟩ = some (.slice Ao65 t383.length co65) ∧ w'.cell? ⟨gb390, 2, none⟩ = some (.slice Ao66 t386.length co66)) ∧ (Kd.R (Kd.int .i64) 3 w' w.heap.size (fun k_ => some k_ ≠ (.slice Ao66 t386.length co66 : Value).ownBlock ∧ some k_ ≠ (s_.1 : Value).ownBlock ∧ some k_ ≠ (s_.2.1 : Value).ownBlock ∧ some k_ ≠ (s_.2.2.1 : Value).ownBlock ∧ some k_ ≠ (.slice Ao32 t361.length co32 : Value).ownBlock ∧ some k_ ≠ (.slice Ao33 t364.length co33 : Value).ownBlock ∧ some k_ ≠ (.slice Ao39 t370.length co39 : Value).ownBlock ∧ some k_ ≠ (.slice Ao40 t373.length co40 : Value).ownBlock ∧ some k_ ≠ (v358 : Value).ownBlock) (.slice Ao65 t383.length co65) t383) ∧ (Kd.R (Kd.int .i64) 3 w' w.heap.size (fun k_ => some k_ ≠ (.slice Ao65 t383.length co65 : Value).ownBlock ∧ some k_ ≠ (s_.1 : Value).ownBlock ∧ some k_ ≠ (s_.2.1 : Value).ownBlock ∧ some k_ ≠ (s_.2.2.1 : Value).ownBlock ∧ some k_ ≠ (.slice Ao32 t361.length co32 : Value).ownBlock ∧ some k_ ≠ (.slice Ao33 t364.length co33 : Value).ownBlock ∧ some k_ ≠ (.slice Ao39 t370.length co39 : Value).ownBlock ∧ some k_ ≠ (.slice Ao40 t373.length co40 : Value).ownBlock ∧ some k_ ≠ (v358 : Value).ownBlock) (.slice Ao66 t386.length co66) t386) ∧ (Kd.R (Kd.int .i64) 3 w' w.heap.size (fun k_ => some k_ ≠ (.slice Ao65 t383.length co65 : Value).ownBlock ∧ some k_ ≠ (.slice Ao66 t386.length co66 : Value).ownBlock ∧ some k_ ≠ (s_.2.1 : Value).ownBlock ∧ some k_ ≠ (s_.2.2.1 : Value).ownBlock ∧ some k_ ≠ (.slice Ao32 t361.length co32 : Value).ownBlock ∧ some k_ ≠ (.slice Ao33 t364.length co33 : Value).ownBlock ∧ some k_ ≠ (.slice Ao39 t370.length co39 : Value).ownBlock ∧ some k_ ≠ (.slice Ao40 t373.length co40 : Value).ownBlock ∧ some k_ ≠ (v358 : Value).ownBlock) s_.1 t391) ∧ (Kd.R (Kd.int .i64) 3 w' w.heap.size (fun k_ => some k_ ≠ (.slice Ao65 t383.length co65 : Value).ownBlock ∧ some k_ ≠ (.slice Ao66 t386.length co66 : Value).ownBlock ∧ some k_ ≠ (s_.1 : Value).ownBlock ∧ some k_ ≠ (s_.2.2.1 : Value).ownBlock ∧ some k_ ≠ (.slice Ao32 t361.length co32 : Value).ownBlock ∧ some k_ ≠ (.slice Ao33 t364.length co33 : Value).ownBlock ∧ some k_ ≠ (.slice Ao39 t370.length co39 : Value).ownBlock ∧ some k_ ≠ (.slice Ao40 t373.length co40 : Value).ownBlock ∧ some k_ ≠ (v358 : Value).ownBlock) s_.2.1 t395) ∧ (Kd.R (Kd.int .i64) 3 w' w.heap.size (fun k_ => some k_ ≠ (.slice Ao65 t383.length co65 : Value).ownBlock ∧ some k_ ≠ (.slice Ao66 t386.length co66 : Value).ownBlock ∧ some k_ ≠ (s_.1 : Value).ownBlock ∧ some k_ ≠ (s_.2.1 : Value).ownBlock ∧ some k_ ≠ (.slice Ao32 t361.length co32 : Value).ownBlock ∧ some k_ ≠ (.slice Ao33 t364.length co33 : Value).ownBlock ∧ some k_ ≠ (.slice Ao39 t370.length co39 : Value).ownBlock ∧ some k_ ≠ (.slice Ao40 t373.length co40 : Value).ownBlock ∧ some k_ ≠ (v358 : Value).ownBlock) s_.2.2.1 t398) ∧ (Kd.R (Kd.int .i64) 3 w' w.heap.size (fun k_ => some k_ ≠ (.slice Ao65 t383.length co65 : Value).ownBlock ∧ some k_ ≠ (.slice Ao66 t386.length co66 : Value).ownBlock ∧ some k_ ≠ (s_.1 : Value).ownBlock ∧ some k_ ≠ (s_.2.1 : Value).ownBlock ∧ some k_ ≠ (s_.2.2.1 : Value).ownBlock ∧ some k_ ≠ (.slice Ao33 t364.length co33 : Value).ownBlock ∧ some k_ ≠ (.slice Ao39 t370.length co39 : Value).ownBlock ∧ some k_ ≠ (.slice Ao40 t373.length co40 : Value).ownBlock ∧ some k_ ≠ (v358 : Value).ownBlock) (.slice Ao32 t361.length co32) t361) ∧ (Kd.R (Kd.int .i64) 3 w' w.heap.size (fun k_ => some k_ ≠ (.slice Ao65 t383.length co65 : Value).ownBlock ∧ some k_ ≠ (.slice Ao66 t386.length co66 : Value).ownBlock ∧ some k_ ≠ (s_.1 : Value).ownBlock ∧ some k_ ≠ (s_.2.1 : Value).ownBlock ∧ some k_ ≠ (s_.2.2.1 : Value).ownBlock ∧ some k_ ≠ (.slice Ao32 t361.length co32 : Value).ownBlock ∧ some k_ ≠ (.slice Ao39 t370.length co39 : Value).ownBlock ∧ some k_ ≠ (.slice Ao40 t373.length co40 : Value).ownBlock ∧ some k_ ≠ (v358 : Value).ownBlock) (.slice Ao33 t364.length co33) t364) ∧ (Kd.R (Kd.int .i64) 3 w' w.heap.size (fun k_ => some k_ ≠ (.slice Ao65 t383.length co65 : Value).ownBlock ∧ some k_ ≠ (.slice Ao66 t386.length co66 : Value).ownBlock ∧ some k_ ≠ (s_.1 : Value).ownBlock ∧ some k_ ≠ (s_.2.1 : Value).ownBlock ∧ some k_ ≠ (s_.2.2.1 : Value).ownBlock ∧ some k_ ≠ (.slice Ao32 t361.length co32 : Value).ownBlock ∧ some k_ ≠ (.slice Ao33 t364.length co33 : Value).ownBlock ∧ some k_ ≠ (.slice Ao40 t373.length co40 : Value).ownBlock ∧ some k_ ≠ (v358 : Value).ownBlock) (.slice Ao39 t370.length co39) t370) ∧ (Kd.R (Kd.int .i64) 3 w' w.heap.size (fun k_ => some k_ ≠ (.slice Ao65 t383.length co65 : Value).ownBlock ∧ some k_ ≠ (.slice Ao66 t386.length co66 : Value).ownBlock ∧ some k_ ≠ (s_.1 : Value).ownBlock ∧ some k_ ≠ (s_.2.1 : Value).ownBlock ∧ some k_ ≠ (s_.2.2.1 : Value).ownBlock ∧ some k_ ≠ (.slice Ao32 t361.length co32 : Value).ownBlock ∧ some k_ ≠ (.slice Ao33 t364.length co33 : Value).ownBlock ∧ some k_ ≠ (.slice Ao39 t370.length co39 : Value).ownBlock ∧ some k_ ≠ (v358 : Value).ownBlock) (.slice Ao40 t373.length co40) t373) ∧ (Kd.R (Kd.int .i64) 3 w' w.heap.size (fun k_ => some k_ ≠ (.slice Ao65 t383.length co65 : Value).ownBlock ∧ some k_ ≠ (.slice Ao66 t386.length co66 : Value).ownBlock ∧ some k_ ≠ (s_.1 : Value).ownBlock ∧ some k_ ≠ (s_.2.1 : Value).ownBlock ∧ some k_ ≠ (s_.2.2.1 : Value).ownBlock ∧ some k_ ≠ (.slice Ao32 t361.length co32 : Value).ownBlock ∧ some k_ ≠ (.slice Ao33 t364.length co33 : Value).ownBlock ∧ some k_ ≠ (.slice Ao39 t370.length co39 : Value).ownBlock ∧ some k_ ≠ (.slice Ao40 t373.length co40 : Value).ownBlock) v358 t357) ∧ (w'.heap[gb353]? = some (.cells #[.int .i64 a0_0, .slice A0_1 l0_1.length c0_1, .slice A0_2 l0_2.length c0_2] 24 (0, 0))) ∧ (w'.heap[gb368]? = some (.cells #[.int .i64 t360, .slice Ao32 t361.length co32, .slice Ao33 t364.length co33] 24 (0, 0))) ∧ (w'.heap[gb377]? = some (.cells #[.int .i64 t369, .slice Ao39 t370.length co39, .slice Ao40 t373.length co40] 24 (0, 0))) ∧ (w'.heap[gb390]? = some (.cells #[.int .i64 t382, .slice Ao65 t383.length co65, .slice Ao66 t386.length co66] 24 (0, 0))) ∧ (w'.heap[s_.2.2.2]? = some (.cells #[.int .i64 0, .slice none 0 0, .slice none 0 0] 24 (0, 0))) ∧ (w.heap.size ≤ s_.2.2.2) ∧ (w.heap.size ≤ s_.2.2.2) ∧ (gb353 ≠ s_.2.2.2) ∧ (s_.2.2.2 ≠ gb353) ∧ (gb368 ≠ s_.2.2.2) ∧ (s_.2.2.2 ≠ gb368) ∧ (gb377 ≠ s_.2.2.2) ∧ (s_.2.2.2 ≠ gb377) ∧ (gb390 ≠ s_.2.2.2) ∧ (s_.2.2.2 ≠ gb390) ∧ (Below w.heap.size w w')) ?_ ?_
       rotate_left
       ·intro hCont
        refine two_ (i := 2) (j := 7) (Ni := some 67) (Nj := some 14) #[true, true, true, false, false, false, false, false, false, false] #[true, true, false, false, false, false, false, true, false, false] rfl rfl rfl rfl (two_of HT_.out (by kernel_rfl)) (by decide) (by decide) (fun K hK => ?_) (fun K hK => ?_)
        ·skip
         refine goes_ Try.func22 (by kernel_rfl) rfl #[.slice A1 l1.length c1] (by rfl) rfl rfl pA ?_
         with_reducible refine (gradinelaw22_back.calls kj23 _ _ l1 t391 _ ?side1 ?side2 A53.out).mono ?_
         (case side1 => exact pC (Kd.C_below HR1.out HB.out))
         (case side2 => exact HC1.out)
         rintro e w69 ⟨v392, rfl, ho0, hb⟩
         refine ⟨_, rfl, ?_⟩
         have n0_ := Aside0.mk (Kd.R_elder' (pR HO_7.out) (Kd.R_base ho0) hb)
         have n1_ := Aside0.mk (Kd.R_elder' (pR HO_369001.out) (Kd.R_base ho0) hb)
         have n2_ := Aside0.mk (Kd.R_elder' (pR HO_369002.out) (Kd.R_base ho0) hb)
         have n3_ := Aside0.mk (Kd.R_elder' (pR HO_378001.out) (Kd.R_base ho0) hb)
         have n4_ := Aside0.mk (Kd.R_elder' (pR HO_378002.out) (Kd.R_base ho0) hb)
         have n5_ := Aside0.mk (Kd.R_elder' (pR HO385.out) (Kd.R_base ho0) hb)
         have n6_ := Aside0.mk (Kd.R_elder' (pR HO388.out) (Kd.R_base ho0) hb)
         have n7_ := Aside0.mk (Kd.R_lower (Kd.R_new' (Kd.R_new' (Kd.R_new' (Kd.R_new' (Kd.R_new' (Kd.R_new' (Kd.R_new' ho0 (Kd.R_lt (pR HO_7.out))) (Kd.R_lt (pR HO_369001.out))) (Kd.R_lt (pR HO_369002.out))) (Kd.R_lt (pR HO_378001.out))) (Kd.R_lt (pR HO_378002.out))) (Kd.R_lt (pR HO385.out))) (Kd.R_lt (pR HO388.out))) (below_size (pB4 HB.out GE353.out GE368.out GE377.out GE390.out)))
         have n8_ := Aside0.mk (blk_below (g := gb353) (pK BK353.out) hb)
         have n9_ := Aside0.mk (blk_below (g := gb368) (pK BK368.out) hb)
         have n10_ := Aside0.mk (blk_below (g := gb377) (pK BK377.out) hb)
         have n11_ := Aside0.mk (blk_below (g := gb390) (pK BK390.out) hb)
         have n12_ := Aside0.mk (below_step (pB4 HB.out GE353.out GE368.out GE377.out GE390.out) hb)
         clear HO_7
         clear HO_369001
         clear HO_369002
         clear HO_378001
         clear HO_378002
         clear HO385
         clear HO388
         clear BK353
         clear BK368
         clear BK377
         clear BK390
         clear HB
         have HO_7 := n0_
         have HO_369001 := n1_
         have HO_369002 := n2_
         have HO_378001 := n3_
         have HO_378002 := n4_
         have HO385 := n5_
         have HO388 := n6_
         have HO393 := n7_
         have BK353 := n8_
         have BK368 := n9_
         have BK377 := n10_
         have BK390 := n11_
         have HB := n12_
         clear n0_ n1_ n2_ n3_ n4_ n5_ n6_ n7_ n8_ n9_ n10_ n11_ n12_
         (try clear hb)
         (try clear hb2)
         (try clear hk)
         (try clear hi)
         (try clear ho0)
         obtain ⟨Ao70, co70, eo70⟩ := Kd.R_slice HO393.out
         (first | subst eo70 | (injection eo70 with f1_ f2_ f3_; have f4_ := f1_.symm; have f5_ := f3_.symm; clear f1_ f2_ f3_; subst f4_; subst f5_))
         refine hK.out _ _ ⟨(blk_cell BK390.out 0).trans rfl, (blk_cell BK390.out 1).trans rfl, (blk_cell BK390.out 2).trans rfl⟩ (fun hHeld => ?_)
         clear hK K
         refine norm_ (a' := ?_) ?_ ?_
         rotate_left
         ·show Act.put _ (some 67) _ = _
          simp only [Act.put, List.setIfInBounds_toArray, List.set_cons_zero, List.set_cons_succ, i64_w, i32_w]
          rfl
         refine two_ (i := 3) (j := 7) (Ni := some 68) (Nj := some 14) #[true, true, true, true, false, false, false, false, false, false] #[true, true, true, false, false, false, false, true, false, false] rfl rfl rfl rfl (two_of HT_.out (by kernel_rfl)) (by decide) (by decide) (fun K hK => ?_) (fun K hK => ?_)
         ·skip
          refine goes_ Try.func21 (by kernel_rfl) rfl #[.agg #[.int .i64 t382, .slice Ao65 t383.length co65, .slice Ao66 t386.length co66], .slice Ao70 t391.length co70] (by rfl) rfl rfl pA ?_
          with_reducible refine (view_Permute.calls kj23 t382 _ _ t383 _ _ t386 _ _ t391 t394 t395 t398 t401 _ ?side1 ?side2 ?side3 ?side4 ?side5 ?side6 A54.out).mono ?_
          (case side1 => exact pC (Kd.R_reads' HO385.out).2.2)
          (case side2 => exact (Kd.R_reads' HO385.out).2.1)
          (case side3 => exact pC (Kd.R_reads' HO388.out).2.2)
          (case side4 => exact (Kd.R_reads' HO388.out).2.1)
          (case side5 => exact pC (Kd.R_reads' HO393.out).2.2)
          (case side6 => exact (Kd.R_reads' HO393.out).2.1)
          rintro e w71 ⟨v396, v399, rfl, ho0, ho1, hb⟩
          refine ⟨_, rfl, ?_⟩
          have n0_ := Aside0.mk (Kd.R_mono (Kd.R_told (Kd.R_told (Kd.R_old (pR HO_7.out) hb) (Kd.R_base ho0)) (Kd.R_base ho1)) (fun _ h_ => h_.1))
          have n1_ := Aside0.mk (Kd.R_mono (Kd.R_told (Kd.R_told (Kd.R_old (pR HO_369001.out) hb) (Kd.R_base ho0)) (Kd.R_base ho1)) (fun _ h_ => h_.1))
          have n2_ := Aside0.mk (Kd.R_mono (Kd.R_told (Kd.R_told (Kd.R_old (pR HO_369002.out) hb) (Kd.R_base ho0)) (Kd.R_base ho1)) (fun _ h_ => h_.1))
          have n3_ := Aside0.mk (Kd.R_mono (Kd.R_told (Kd.R_told (Kd.R_old (pR HO_378001.out) hb) (Kd.R_base ho0)) (Kd.R_base ho1)) (fun _ h_ => h_.1))
          have n4_ := Aside0.mk (Kd.R_mono (Kd.R_told (Kd.R_told (Kd.R_old (pR HO_378002.out) hb) (Kd.R_base ho0)) (Kd.R_base ho1)) (fun _ h_ => h_.1))
          have n5_ := Aside0.mk (Kd.R_mono (Kd.R_told (Kd.R_told (Kd.R_old (pR HO385.out) hb) (Kd.R_base ho0)) (Kd.R_base ho1)) (fun _ h_ => h_.1))
          have n6_ := Aside0.mk (Kd.R_mono (Kd.R_told (Kd.R_told (Kd.R_old (pR HO388.out) hb) (Kd.R_base ho0)) (Kd.R_base ho1)) (fun _ h_ => h_.1))
          have n7_ := Aside0.mk (Kd.R_mono (Kd.R_told (Kd.R_told (Kd.R_old (pR HO393.out) hb) (Kd.R_base ho0)) (Kd.R_base ho1)) (fun _ h_ => h_.1))
          have n8_ := Aside0.mk (Kd.R_lower (Kd.R_new' (Kd.R_new' (Kd.R_new' (Kd.R_new' (Kd.R_new' (Kd.R_new' (Kd.R_new' (Kd.R_new' ho0 (Kd.R_lt (pR HO_7.out))) (Kd.R_lt (pR HO_369001.out))) (Kd.R_lt (pR HO_369002.out))) (Kd.R_lt (pR HO_378001.out))) (Kd.R_lt (pR HO_378002.out))) (Kd.R_lt (pR HO385.out))) (Kd.R_lt (pR HO388.out))) (Kd.R_lt (pR HO393.out))) (below_size (pB4 HB.out GE353.out GE368.out GE377.out GE390.out)))
          have n9_ := Aside0.mk (Kd.R_lower (Kd.R_new' (Kd.R_new' (Kd.R_new' (Kd.R_new' (Kd.R_new' (Kd.R_new' (Kd.R_new' (Kd.R_new' ho1 (Kd.R_lt (pR HO_7.out))) (Kd.R_lt (pR HO_369001.out))) (Kd.R_lt (pR HO_369002.out))) (Kd.R_lt (pR HO_378001.out))) (Kd.R_lt (pR HO_378002.out))) (Kd.R_lt (pR HO385.out))) (Kd.R_lt (pR HO388.out))) (Kd.R_lt (pR HO393.out))) (below_size (pB4 HB.out GE353.out GE368.out GE377.out GE390.out)))
          have n10_ := Aside0.mk (blk_below (g := gb353) (pK BK353.out) hb)
          have n11_ := Aside0.mk (blk_below (g := gb368) (pK BK368.out) hb)
          have n12_ := Aside0.mk (blk_below (g := gb377) (pK BK377.out) hb)
          have n13_ := Aside0.mk (blk_below (g := gb390) (pK BK390.out) hb)
          have n14_ := Aside0.mk (below_step (pB4 HB.out GE353.out GE368.out GE377.out GE390.out) hb)
          clear HO_7
          clear HO_369001
          clear HO_369002
          clear HO_378001
          clear HO_378002
          clear HO385
          clear HO388
          clear HO393
          clear BK353
          clear BK368
          clear BK377
          clear BK390
          clear HB
          have HO_7 := n0_
          have HO_369001 := n1_
          have HO_369002 := n2_
          have HO_378001 := n3_
          have HO_378002 := n4_
          have HO385 := n5_
          have HO388 := n6_
          have HO393 := n7_
          have HO397 := n8_
          have HO400 := n9_
          have BK353 := n10_
          have BK368 := n11_
          have BK377 := n12_
          have BK390 := n13_
          have HB := n14_
          clear n0_ n1_ n2_ n3_ n4_ n5_ n6_ n7_ n8_ n9_ n10_ n11_ n12_ n13_ n14_
          (try clear hb)
          (try clear hb2)
          (try clear hk)
          (try clear hi)
          (try clear ho0)
          (try clear ho1)
          refine hK.out _ _ ⟨(blk_cell BK390.out 0).trans rfl, (blk_cell BK390.out 1).trans rfl, (blk_cell BK390.out 2).trans rfl⟩ (fun hHeld => ?_)
          clear hK K
          refine norm_ (a' := ?_) ?_ ?_
          rotate_left
          ·show Act.put _ (some 68) _ = _
           simp only [Act.put, List.setIfInBounds_toArray, List.set_cons_zero, List.set_cons_succ, i64_w, i32_w]
           rfl
          refine pP (i := 4) (N := some 64) #[true, true, true, true, true, false, false, false, false, false] rfl rfl HT_.out ?_
          refine pP (i := 5) (N := some 69) #[true, true, true, true, true, true, false, false, false, false] rfl rfl HT_.out ?_
          refine pP (i := 6) (N := some 70) #[true, true, true, true, true, true, true, false, false, false] rfl rfl HT_.out ?_
          refine one_ (i := 7) (N := some 14) #[true, true, true, true, true, true, true, true, false, false] rfl rfl (one_of HT_.out (by kernel_rfl)) (by decide) (fun K hK => ?_)
          refine box_step ?hg (N := 14) ?hd (cs := #[.int .i64 0, .slice none 0 0, .slice none 0 0]) (t := 24) ?hr ?_; (case hd => rfl); (case hg => rfl); (case hr => first | (go_simp; done) | (go_simp; rfl))
          intro gb402 hg w72 hbox hb
          have n0_ := Aside0.mk (Kd.R_below (pR HO_7.out) hb)
          have n1_ := Aside0.mk (Kd.R_below (pR HO_369001.out) hb)
          have n2_ := Aside0.mk (Kd.R_below (pR HO_369002.out) hb)
          have n3_ := Aside0.mk (Kd.R_below (pR HO_378001.out) hb)
          have n4_ := Aside0.mk (Kd.R_below (pR HO_378002.out) hb)
          have n5_ := Aside0.mk (Kd.R_below (pR HO385.out) hb)
          have n6_ := Aside0.mk (Kd.R_below (pR HO388.out) hb)
          have n7_ := Aside0.mk (Kd.R_below (pR HO393.out) hb)
          have n8_ := Aside0.mk (Kd.R_below (pR HO397.out) hb)
          have n9_ := Aside0.mk (Kd.R_below (pR HO400.out) hb)
          have n10_ := Aside0.mk (blk_below (g := gb353) (pK BK353.out) hb)
          have n11_ := Aside0.mk (blk_below (g := gb368) (pK BK368.out) hb)
          have n12_ := Aside0.mk (blk_below (g := gb377) (pK BK377.out) hb)
          have n13_ := Aside0.mk (blk_below (g := gb390) (pK BK390.out) hb)
          have n14_ := Aside0.mk (below_step (pB4 HB.out GE353.out GE368.out GE377.out GE390.out) hb)
          have n15_ := Aside0.mk (hbox)
          have n16_ := Aside0.mk ((by rw [hg]; exact (below_size (pB4 HB.out GE353.out GE368.out GE377.out GE390.out)) : w.heap.size ≤ gb402))
          have n17_ := Aside0.mk ((by rw [hg]; exact (below_size (pB4 HB.out GE353.out GE368.out GE377.out GE390.out)) : w.heap.size ≤ gb402))
          have n18_ := Aside0.mk ((by rw [hg]; exact Nat.ne_of_lt (blk_lt (g := gb353) (pK BK353.out)) : gb353 ≠ gb402))
          have n19_ := Aside0.mk ((by rw [hg]; exact Nat.ne_of_gt (blk_lt (g := gb353) (pK BK353.out)) : gb402 ≠ gb353))
          have n20_ := Aside0.mk ((by rw [hg]; exact Nat.ne_of_lt (blk_lt (g := gb368) (pK BK368.out)) : gb368 ≠ gb402))
          have n21_ := Aside0.mk ((by rw [hg]; exact Nat.ne_of_gt (blk_lt (g := gb368) (pK BK368.out)) : gb402 ≠ gb368))
          have n22_ := Aside0.mk ((by rw [hg]; exact Nat.ne_of_lt (blk_lt (g := gb377) (pK BK377.out)) : gb377 ≠ gb402))
          have n23_ := Aside0.mk ((by rw [hg]; exact Nat.ne_of_gt (blk_lt (g := gb377) (pK BK377.out)) : gb402 ≠ gb377))
          have n24_ := Aside0.mk ((by rw [hg]; exact Nat.ne_of_lt (blk_lt (g := gb390) (pK BK390.out)) : gb390 ≠ gb402))
          have n25_ := Aside0.mk ((by rw [hg]; exact Nat.ne_of_gt (blk_lt (g := gb390) (pK BK390.out)) : gb402 ≠ gb390))
          clear HO_7
          clear HO_369001
          clear HO_369002
          clear HO_378001
          clear HO_378002
          clear HO385
          clear HO388
          clear HO393
          clear HO397
          clear HO400
          clear BK353
          clear BK368
          clear BK377
          clear BK390
          clear HB
          have HO_7 := n0_
          have HO_369001 := n1_
          have HO_369002 := n2_
          have HO_378001 := n3_
          have HO_378002 := n4_
          have HO385 := n5_
          have HO388 := n6_
          have HO393 := n7_
          have HO397 := n8_
          have HO400 := n9_
          have BK353 := n10_
          have BK368 := n11_
          have BK377 := n12_
          have BK390 := n13_
          have HB := n14_
          have BK402 := n15_
          have GW402 := n16_
          have GE402 := n17_
          have NB353_402 := n18_
          have NB402_353 := n19_
          have NB368_402 := n20_
          have NB402_368 := n21_
          have NB377_402 := n22_
          have NB402_377 := n23_
          have NB390_402 := n24_
          have NB402_390 := n25_
          clear n0_ n1_ n2_ n3_ n4_ n5_ n6_ n7_ n8_ n9_ n10_ n11_ n12_ n13_ n14_ n15_ n16_ n17_ n18_ n19_ n20_ n21_ n22_ n23_ n24_ n25_
          clear hb hbox hg
          refine hK.out _ _ ⟨(blk_cell BK390.out 0).trans rfl, (blk_cell BK390.out 1).trans rfl, (blk_cell BK390.out 2).trans rfl⟩ (fun hHeld => ?_)
          clear hK K
          refine norm_ (a' := ?_) ?_ ?_
          rotate_left
          ·show Act.put _ (some 14) _ = _
           simp only [Act.put, List.setIfInBounds_toArray, List.set_cons_zero, List.set_cons_succ, i64_w, i32_w]
           rfl
          exact norm_ (by simp only [putAll, Act.put, List.setIfInBounds_toArray, List.set_cons_zero, List.set_cons_succ]) (hCont (.slice Ao70 t391.length co70, v396, v399, gb402) _ ⟨hHeld, (by (with_reducible repeat (first | apply Kd.R_alloc | apply Kd.R_drewN | apply Kd.R_drew)); exact Kd.R_mono HO385.out (fun _ hk => ⟨hk.1.1.1.2.2.2.2.2, ⟨hk.1.1.2, ⟨hk.1.2, ⟨hk.2, ⟨hk.1.1.1.2.1, ⟨hk.1.1.1.2.2.1, ⟨hk.1.1.1.2.2.2.1, ⟨hk.1.1.1.2.2.2.2.1, hk.1.1.1.1⟩⟩⟩⟩⟩⟩⟩⟩)), (by (with_reducible repeat (first | apply Kd.R_alloc | apply Kd.R_drewN | apply Kd.R_drew)); exact Kd.R_mono HO388.out (fun _ hk => ⟨hk.1.1.1.2.2.2.2.2, ⟨hk.1.1.2, ⟨hk.1.2, ⟨hk.2, ⟨hk.1.1.1.2.1, ⟨hk.1.1.1.2.2.1, ⟨hk.1.1.1.2.2.2.1, ⟨hk.1.1.1.2.2.2.2.1, hk.1.1.1.1⟩⟩⟩⟩⟩⟩⟩⟩)), (by (with_reducible repeat (first | apply Kd.R_alloc | apply Kd.R_drewN | apply Kd.R_drew)); exact Kd.R_mono HO393.out (fun _ hk => ⟨hk.1.1.1.2, ⟨hk.1.1.2, ⟨hk.1.2, ⟨hk.2, ⟨hk.1.1.1.1.1.1.1.2, ⟨hk.1.1.1.1.1.1.2, ⟨hk.1.1.1.1.1.2, ⟨hk.1.1.1.1.2, hk.1.1.1.1.1.1.1.1.2⟩⟩⟩⟩⟩⟩⟩⟩)), (by (with_reducible repeat (first | apply Kd.R_alloc | apply Kd.R_drewN | apply Kd.R_drew)); exact Kd.R_mono HO397.out (fun _ hk => ⟨hk.1.1.2, ⟨hk.1.2, ⟨hk.2, ⟨hk.1.1.1.1.1.1.1.1, ⟨hk.1.1.1.1.1.1.2, ⟨hk.1.1.1.1.1.2, ⟨hk.1.1.1.1.2, ⟨hk.1.1.1.2, hk.1.1.1.1.1.1.1.2⟩⟩⟩⟩⟩⟩⟩⟩)), (by (with_reducible repeat (first | apply Kd.R_alloc | apply Kd.R_drewN | apply Kd.R_drew)); exact Kd.R_mono HO400.out (fun _ hk => ⟨hk.1.1.2, ⟨hk.1.2, ⟨hk.2, ⟨hk.1.1.1.1.1.1.1.1, ⟨hk.1.1.1.1.1.1.2, ⟨hk.1.1.1.1.1.2, ⟨hk.1.1.1.1.2, ⟨hk.1.1.1.2, hk.1.1.1.1.1.1.1.2⟩⟩⟩⟩⟩⟩⟩⟩)), (by (with_reducible repeat (first | apply Kd.R_alloc | apply Kd.R_drewN | apply Kd.R_drew)); exact Kd.R_mono HO_369001.out (fun _ hk => ⟨hk.1.1.1.2.2.2.2.1, ⟨hk.1.1.1.2.2.2.2.2, ⟨hk.1.1.2, ⟨hk.1.2, ⟨hk.2, ⟨hk.1.1.1.2.1, ⟨hk.1.1.1.2.2.1, ⟨hk.1.1.1.2.2.2.1, hk.1.1.1.1⟩⟩⟩⟩⟩⟩⟩⟩)), (by (with_reducible repeat (first | apply Kd.R_alloc | apply Kd.R_drewN | apply Kd.R_drew)); exact Kd.R_mono HO_369002.out (fun _ hk => ⟨hk.1.1.1.2.2.2.2.1, ⟨hk.1.1.1.2.2.2.2.2, ⟨hk.1.1.2, ⟨hk.1.2, ⟨hk.2, ⟨hk.1.1.1.2.1, ⟨hk.1.1.1.2.2.1, ⟨hk.1.1.1.2.2.2.1, hk.1.1.1.1⟩⟩⟩⟩⟩⟩⟩⟩)), (by (with_reducible repeat (first | apply Kd.R_alloc | apply Kd.R_drewN | apply Kd.R_drew)); exact Kd.R_mono HO_378001.out (fun _ hk => ⟨hk.1.1.1.2.2.2.2.1, ⟨hk.1.1.1.2.2.2.2.2, ⟨hk.1.1.2, ⟨hk.1.2, ⟨hk.2, ⟨hk.1.1.1.2.1, ⟨hk.1.1.1.2.2.1, ⟨hk.1.1.1.2.2.2.1, hk.1.1.1.1⟩⟩⟩⟩⟩⟩⟩⟩)), (by (with_reducible repeat (first | apply Kd.R_alloc | apply Kd.R_drewN | apply Kd.R_drew)); exact Kd.R_mono HO_378002.out (fun _ hk => ⟨hk.1.1.1.2.2.2.2.1, ⟨hk.1.1.1.2.2.2.2.2, ⟨hk.1.1.2, ⟨hk.1.2, ⟨hk.2, ⟨hk.1.1.1.2.1, ⟨hk.1.1.1.2.2.1, ⟨hk.1.1.1.2.2.2.1, hk.1.1.1.1⟩⟩⟩⟩⟩⟩⟩⟩)), (by (with_reducible repeat (first | apply Kd.R_alloc | apply Kd.R_drewN | apply Kd.R_drew)); exact Kd.R_mono HO_7.out (fun _ hk => ⟨hk.1.1.1.2.2.2.2.1, ⟨hk.1.1.1.2.2.2.2.2, ⟨hk.1.1.2, ⟨hk.1.2, ⟨hk.2, ⟨hk.1.1.1.1, ⟨hk.1.1.1.2.1, ⟨hk.1.1.1.2.2.1, hk.1.1.1.2.2.2.1⟩⟩⟩⟩⟩⟩⟩⟩)), (pK BK353.out), (pK BK368.out), (pK BK377.out), (pK BK390.out), (pK BK402.out), GW402.out, GE402.out, NB353_402.out, NB402_353.out, NB368_402.out, NB402_368.out, NB377_402.out, NB402_377.out, NB390_402.out, NB402_390.out, (pB5 HB.out GE353.out GE368.out GE377.out GE390.out GE402.out)⟩)
         ·skip
          refine box_step ?hg (N := 14) ?hd (cs := #[.int .i64 0, .slice none 0 0, .slice none 0 0]) (t := 24) ?hr ?_; (case hd => rfl); (case hg => rfl); (case hr => first | (go_simp; done) | (go_simp; rfl))
          intro gb402 hg w70 hbox hb
          have n0_ := Aside0.mk (Kd.R_below (pR HO_7.out) hb)
          have n1_ := Aside0.mk (Kd.R_below (pR HO_369001.out) hb)
          have n2_ := Aside0.mk (Kd.R_below (pR HO_369002.out) hb)
          have n3_ := Aside0.mk (Kd.R_below (pR HO_378001.out) hb)
          have n4_ := Aside0.mk (Kd.R_below (pR HO_378002.out) hb)
          have n5_ := Aside0.mk (Kd.R_below (pR HO385.out) hb)
          have n6_ := Aside0.mk (Kd.R_below (pR HO388.out) hb)
          have n7_ := Aside0.mk (Kd.R_below (pR HO393.out) hb)
          have n8_ := Aside0.mk (blk_below (g := gb353) (pK BK353.out) hb)
          have n9_ := Aside0.mk (blk_below (g := gb368) (pK BK368.out) hb)
          have n10_ := Aside0.mk (blk_below (g := gb377) (pK BK377.out) hb)
          have n11_ := Aside0.mk (blk_below (g := gb390) (pK BK390.out) hb)
          have n12_ := Aside0.mk (below_step (pB4 HB.out GE353.out GE368.out GE377.out GE390.out) hb)
          have n13_ := Aside0.mk (hbox)
          have n14_ := Aside0.mk ((by rw [hg]; exact (below_size (pB4 HB.out GE353.out GE368.out GE377.out GE390.out)) : w.heap.size ≤ gb402))
          have n15_ := Aside0.mk ((by rw [hg]; exact (below_size (pB4 HB.out GE353.out GE368.out GE377.out GE390.out)) : w.heap.size ≤ gb402))
          have n16_ := Aside0.mk ((by rw [hg]; exact Nat.ne_of_lt (blk_lt (g := gb353) (pK BK353.out)) : gb353 ≠ gb402))
          have n17_ := Aside0.mk ((by rw [hg]; exact Nat.ne_of_gt (blk_lt (g := gb353) (pK BK353.out)) : gb402 ≠ gb353))
          have n18_ := Aside0.mk ((by rw [hg]; exact Nat.ne_of_lt (blk_lt (g := gb368) (pK BK368.out)) : gb368 ≠ gb402))
          have n19_ := Aside0.mk ((by rw [hg]; exact Nat.ne_of_gt (blk_lt (g := gb368) (pK BK368.out)) : gb402 ≠ gb368))
          have n20_ := Aside0.mk ((by rw [hg]; exact Nat.ne_of_lt (blk_lt (g := gb377) (pK BK377.out)) : gb377 ≠ gb402))
          have n21_ := Aside0.mk ((by rw [hg]; exact Nat.ne_of_gt (blk_lt (g := gb377) (pK BK377.out)) : gb402 ≠ gb377))
          have n22_ := Aside0.mk ((by rw [hg]; exact Nat.ne_of_lt (blk_lt (g := gb390) (pK BK390.out)) : gb390 ≠ gb402))
          have n23_ := Aside0.mk ((by rw [hg]; exact Nat.ne_of_gt (blk_lt (g := gb390) (pK BK390.out)) : gb402 ≠ gb390))
          clear HO_7
          clear HO_369001
          clear HO_369002
          clear HO_378001
          clear HO_378002
          clear HO385
          clear HO388
          clear HO393
          clear BK353
          clear BK368
          clear BK377
          clear BK390
          clear HB
          have HO_7 := n0_
          have HO_369001 := n1_
          have HO_369002 := n2_
          have HO_378001 := n3_
          have HO_378002 := n4_
          have HO385 := n5_
          have HO388 := n6_
          have HO393 := n7_
          have BK353 := n8_
          have BK368 := n9_
          have BK377 := n10_
          have BK390 := n11_
          have HB := n12_
          have BK402 := n13_
          have GW402 := n14_
          have GE402 := n15_
          have NB353_402 := n16_
          have NB402_353 := n17_
          have NB368_402 := n18_
          have NB402_368 := n19_
          have NB377_402 := n20_
          have NB402_377 := n21_
          have NB390_402 := n22_
          have NB402_390 := n23_
          clear n0_ n1_ n2_ n3_ n4_ n5_ n6_ n7_ n8_ n9_ n10_ n11_ n12_ n13_ n14_ n15_ n16_ n17_ n18_ n19_ n20_ n21_ n22_ n23_
          clear hb hbox hg
          obtain ⟨Ao71, co71, eo71⟩ := Kd.R_slice HO393.out
          (first | subst eo71 | (injection eo71 with f1_ f2_ f3_; have f4_ := f1_.symm; have f5_ := f3_.symm; clear f1_ f2_ f3_; subst f4_; subst f5_))
          refine hK.out _ _ ⟨(blk_cell BK390.out 0).trans rfl, (blk_cell BK390.out 1).trans rfl, (blk_cell BK390.out 2).trans rfl⟩ (fun hHeld => ?_)
          clear hK K
          refine norm_ (a' := ?_) ?_ ?_
          rotate_left
          ·show Act.put _ (some 14) _ = _
           simp only [Act.put, List.setIfInBounds_toArray, List.set_cons_zero, List.set_cons_succ, i64_w, i32_w]
           rfl
          refine one_ (i := 3) (N := some 68) #[true, true, true, true, false, false, false, true, false, false] rfl rfl (one_of HT_.out (by kernel_rfl)) (by decide) (fun K hK => ?_)
          refine goes_ Try.func21 (by kernel_rfl) rfl #[.agg #[.int .i64 t382, .slice Ao65 t383.length co65, .slice Ao66 t386.length co66], .slice Ao71 t391.length co71] (by rfl) rfl rfl pA ?_
          with_reducible refine (view_Permute.calls kj23 t382 _ _ t383 _ _ t386 _ _ t391 t394 t395 t398 t401 _ ?side1 ?side2 ?side3 ?side4 ?side5 ?side6 A54.out).mono ?_
          (case side1 => exact pC (Kd.R_reads' HO385.out).2.2)
          (case side2 => exact (Kd.R_reads' HO385.out).2.1)
          (case side3 => exact pC (Kd.R_reads' HO388.out).2.2)
          (case side4 => exact (Kd.R_reads' HO388.out).2.1)
          (case side5 => exact pC (Kd.R_reads' HO393.out).2.2)
          (case side6 => exact (Kd.R_reads' HO393.out).2.1)
          rintro e w72 ⟨v396, v399, rfl, ho0, ho1, hb⟩
          refine ⟨_, rfl, ?_⟩
          have n0_ := Aside0.mk (Kd.R_mono (Kd.R_told (Kd.R_told (Kd.R_old (pR HO_7.out) hb) (Kd.R_base ho0)) (Kd.R_base ho1)) (fun _ h_ => h_.1))
          have n1_ := Aside0.mk (Kd.R_mono (Kd.R_told (Kd.R_told (Kd.R_old (pR HO_369001.out) hb) (Kd.R_base ho0)) (Kd.R_base ho1)) (fun _ h_ => h_.1))
          have n2_ := Aside0.mk (Kd.R_mono (Kd.R_told (Kd.R_told (Kd.R_old (pR HO_369002.out) hb) (Kd.R_base ho0)) (Kd.R_base ho1)) (fun _ h_ => h_.1))
          have n3_ := Aside0.mk (Kd.R_mono (Kd.R_told (Kd.R_told (Kd.R_old (pR HO_378001.out) hb) (Kd.R_base ho0)) (Kd.R_base ho1)) (fun _ h_ => h_.1))
          have n4_ := Aside0.mk (Kd.R_mono (Kd.R_told (Kd.R_told (Kd.R_old (pR HO_378002.out) hb) (Kd.R_base ho0)) (Kd.R_base ho1)) (fun _ h_ => h_.1))
          have n5_ := Aside0.mk (Kd.R_mono (Kd.R_told (Kd.R_told (Kd.R_old (pR HO385.out) hb) (Kd.R_base ho0)) (Kd.R_base ho1)) (fun _ h_ => h_.1))
          have n6_ := Aside0.mk (Kd.R_mono (Kd.R_told (Kd.R_told (Kd.R_old (pR HO388.out) hb) (Kd.R_base ho0)) (Kd.R_base ho1)) (fun _ h_ => h_.1))
          have n7_ := Aside0.mk (Kd.R_mono (Kd.R_told (Kd.R_told (Kd.R_old (pR HO393.out) hb) (Kd.R_base ho0)) (Kd.R_base ho1)) (fun _ h_ => h_.1))
          have n8_ := Aside0.mk (Kd.R_lower (Kd.R_new' (Kd.R_new' (Kd.R_new' (Kd.R_new' (Kd.R_new' (Kd.R_new' (Kd.R_new' (Kd.R_new' ho0 (Kd.R_lt (pR HO_7.out))) (Kd.R_lt (pR HO_369001.out))) (Kd.R_lt (pR HO_369002.out))) (Kd.R_lt (pR HO_378001.out))) (Kd.R_lt (pR HO_378002.out))) (Kd.R_lt (pR HO385.out))) (Kd.R_lt (pR HO388.out))) (Kd.R_lt (pR HO393.out))) (below_size (pB5 HB.out GE353.out GE368.out GE377.out GE390.out GE402.out)))
          have n9_ := Aside0.mk (Kd.R_lower (Kd.R_new' (Kd.R_new' (Kd.R_new' (Kd.R_new' (Kd.R_new' (Kd.R_new' (Kd.R_new' (Kd.R_new' ho1 (Kd.R_lt (pR HO_7.out))) (Kd.R_lt (pR HO_369001.out))) (Kd.R_lt (pR HO_369002.out))) (Kd.R_lt (pR HO_378001.out))) (Kd.R_lt (pR HO_378002.out))) (Kd.R_lt (pR HO385.out))) (Kd.R_lt (pR HO388.out))) (Kd.R_lt (pR HO393.out))) (below_size (pB5 HB.out GE353.out GE368.out GE377.out GE390.out GE402.out)))
          have n10_ := Aside0.mk (blk_below (g := gb353) (pK BK353.out) hb)
          have n11_ := Aside0.mk (blk_below (g := gb368) (pK BK368.out) hb)
          have n12_ := Aside0.mk (blk_below (g := gb377) (pK BK377.out) hb)
          have n13_ := Aside0.mk (blk_below (g := gb390) (pK BK390.out) hb)
          have n14_ := Aside0.mk (blk_below (g := gb402) (pK BK402.out) hb)
          have n15_ := Aside0.mk (below_step (pB5 HB.out GE353.out GE368.out GE377.out GE390.out GE402.out) hb)
          clear HO_7
          clear HO_369001
          clear HO_369002
          clear HO_378001
          clear HO_378002
          clear HO385
          clear HO388
          clear HO393
          clear BK353
          clear BK368
          clear BK377
          clear BK390
          clear BK402
          clear HB
          have HO_7 := n0_
          have HO_369001 := n1_
          have HO_369002 := n2_
          have HO_378001 := n3_
          have HO_378002 := n4_
          have HO385 := n5_
          have HO388 := n6_
          have HO393 := n7_
          have HO397 := n8_
          have HO400 := n9_
          have BK353 := n10_
          have BK368 := n11_
          have BK377 := n12_
          have BK390 := n13_
          have BK402 := n14_
          have HB := n15_
          clear n0_ n1_ n2_ n3_ n4_ n5_ n6_ n7_ n8_ n9_ n10_ n11_ n12_ n13_ n14_ n15_
          (try clear hb)
          (try clear hb2)
          (try clear hk)
          (try clear hi)
          (try clear ho0)
          (try clear ho1)
          refine hK.out _ _ ⟨(blk_cell BK390.out 0).trans rfl, (blk_cell BK390.out 1).trans rfl, (blk_cell BK390.out 2).trans rfl⟩ (fun hHeld => ?_)
          clear hK K
          refine norm_ (a' := ?_) ?_ ?_
          rotate_left
          ·show Act.put _ (some 68) _ = _
           simp only [Act.put, List.setIfInBounds_toArray, List.set_cons_zero, List.set_cons_succ, i64_w, i32_w]
           rfl
          refine pP (i := 4) (N := some 64) #[true, true, true, true, true, false, false, true, false, false] rfl rfl HT_.out ?_
          refine pP (i := 5) (N := some 69) #[true, true, true, true, true, true, false, true, false, false] rfl rfl HT_.out ?_
          refine pP (i := 6) (N := some 70) #[true, true, true, true, true, true, true, true, false, false] rfl rfl HT_.out ?_
          exact norm_ (by simp only [putAll, Act.put, List.setIfInBounds_toArray, List.set_cons_zero, List.set_cons_succ]) (hCont (.slice Ao71 t391.length co71, v396, v399, gb402) _ ⟨hHeld, (by (with_reducible repeat (first | apply Kd.R_alloc | apply Kd.R_drewN | apply Kd.R_drew)); exact Kd.R_mono HO385.out (fun _ hk => ⟨hk.1.1.1.2.2.2.2.2, ⟨hk.1.1.2, ⟨hk.1.2, ⟨hk.2, ⟨hk.1.1.1.2.1, ⟨hk.1.1.1.2.2.1, ⟨hk.1.1.1.2.2.2.1, ⟨hk.1.1.1.2.2.2.2.1, hk.1.1.1.1⟩⟩⟩⟩⟩⟩⟩⟩)), (by (with_reducible repeat (first | apply Kd.R_alloc | apply Kd.R_drewN | apply Kd.R_drew)); exact Kd.R_mono HO388.out (fun _ hk => ⟨hk.1.1.1.2.2.2.2.2, ⟨hk.1.1.2, ⟨hk.1.2, ⟨hk.2, ⟨hk.1.1.1.2.1, ⟨hk.1.1.1.2.2.1, ⟨hk.1.1.1.2.2.2.1, ⟨hk.1.1.1.2.2.2.2.1, hk.1.1.1.1⟩⟩⟩⟩⟩⟩⟩⟩)), (by (with_reducible repeat (first | apply Kd.R_alloc | apply Kd.R_drewN | apply Kd.R_drew)); exact Kd.R_mono HO393.out (fun _ hk => ⟨hk.1.1.1.2, ⟨hk.1.1.2, ⟨hk.1.2, ⟨hk.2, ⟨hk.1.1.1.1.1.1.1.2, ⟨hk.1.1.1.1.1.1.2, ⟨hk.1.1.1.1.1.2, ⟨hk.1.1.1.1.2, hk.1.1.1.1.1.1.1.1.2⟩⟩⟩⟩⟩⟩⟩⟩)), (by (with_reducible repeat (first | apply Kd.R_alloc | apply Kd.R_drewN | apply Kd.R_drew)); exact Kd.R_mono HO397.out (fun _ hk => ⟨hk.1.1.2, ⟨hk.1.2, ⟨hk.2, ⟨hk.1.1.1.1.1.1.1.1, ⟨hk.1.1.1.1.1.1.2, ⟨hk.1.1.1.1.1.2, ⟨hk.1.1.1.1.2, ⟨hk.1.1.1.2, hk.1.1.1.1.1.1.1.2⟩⟩⟩⟩⟩⟩⟩⟩)), (by (with_reducible repeat (first | apply Kd.R_alloc | apply Kd.R_drewN | apply Kd.R_drew)); exact Kd.R_mono HO400.out (fun _ hk => ⟨hk.1.1.2, ⟨hk.1.2, ⟨hk.2, ⟨hk.1.1.1.1.1.1.1.1, ⟨hk.1.1.1.1.1.1.2, ⟨hk.1.1.1.1.1.2, ⟨hk.1.1.1.1.2, ⟨hk.1.1.1.2, hk.1.1.1.1.1.1.1.2⟩⟩⟩⟩⟩⟩⟩⟩)), (by (with_reducible repeat (first | apply Kd.R_alloc | apply Kd.R_drewN | apply Kd.R_drew)); exact Kd.R_mono HO_369001.out (fun _ hk => ⟨hk.1.1.1.2.2.2.2.1, ⟨hk.1.1.1.2.2.2.2.2, ⟨hk.1.1.2, ⟨hk.1.2, ⟨hk.2, ⟨hk.1.1.1.2.1, ⟨hk.1.1.1.2.2.1, ⟨hk.1.1.1.2.2.2.1, hk.1.1.1.1⟩⟩⟩⟩⟩⟩⟩⟩)), (by (with_reducible repeat (first | apply Kd.R_alloc | apply Kd.R_drewN | apply Kd.R_drew)); exact Kd.R_mono HO_369002.out (fun _ hk => ⟨hk.1.1.1.2.2.2.2.1, ⟨hk.1.1.1.2.2.2.2.2, ⟨hk.1.1.2, ⟨hk.1.2, ⟨hk.2, ⟨hk.1.1.1.2.1, ⟨hk.1.1.1.2.2.1, ⟨hk.1.1.1.2.2.2.1, hk.1.1.1.1⟩⟩⟩⟩⟩⟩⟩⟩)), (by (with_reducible repeat (first | apply Kd.R_alloc | apply Kd.R_drewN | apply Kd.R_drew)); exact Kd.R_mono HO_378001.out (fun _ hk => ⟨hk.1.1.1.2.2.2.2.1, ⟨hk.1.1.1.2.2.2.2.2, ⟨hk.1.1.2, ⟨hk.1.2, ⟨hk.2, ⟨hk.1.1.1.2.1, ⟨hk.1.1.1.2.2.1, ⟨hk.1.1.1.2.2.2.1, hk.1.1.1.1⟩⟩⟩⟩⟩⟩⟩⟩)), (by (with_reducible repeat (first | apply Kd.R_alloc | apply Kd.R_drewN | apply Kd.R_drew)); exact Kd.R_mono HO_378002.out (fun _ hk => ⟨hk.1.1.1.2.2.2.2.1, ⟨hk.1.1.1.2.2.2.2.2, ⟨hk.1.1.2, ⟨hk.1.2, ⟨hk.2, ⟨hk.1.1.1.2.1, ⟨hk.1.1.1.2.2.1, ⟨hk.1.1.1.2.2.2.1, hk.1.1.1.1⟩⟩⟩⟩⟩⟩⟩⟩)), (by (with_reducible repeat (first | apply Kd.R_alloc | apply Kd.R_drewN | apply Kd.R_drew)); exact Kd.R_mono HO_7.out (fun _ hk => ⟨hk.1.1.1.2.2.2.2.1, ⟨hk.1.1.1.2.2.2.2.2, ⟨hk.1.1.2, ⟨hk.1.2, ⟨hk.2, ⟨hk.1.1.1.1, ⟨hk.1.1.1.2.1, ⟨hk.1.1.1.2.2.1, hk.1.1.1.2.2.2.1⟩⟩⟩⟩⟩⟩⟩⟩)), (pK BK353.out), (pK BK368.out), (pK BK377.out), (pK BK390.out), (pK BK402.out), GW402.out, GE402.out, NB353_402.out, NB402_353.out, NB368_402.out, NB402_368.out, NB377_402.out, NB402_377.out, NB390_402.out, NB402_390.out, (pB5 HB.out GE353.out GE368.out GE377.out GE390.out GE402.out)⟩)
        ·skip
         refine box_step ?hg (N := 14) ?hd (cs := #[.int .i64 0, .slice none 0 0, .slice none 0 0]) (t := 24) ?hr ?_; (case hd => rfl); (case hg => rfl); (case hr => first | (go_simp; done) | (go_simp; rfl))
         intro gb402 hg w69 hbox hb
         have n0_ := Aside0.mk (Kd.R_below (pR HO_7.out) hb)
         have n1_ := Aside0.mk (Kd.R_below (pR HO_369001.out) hb)
         have n2_ := Aside0.mk (Kd.R_below (pR HO_369002.out) hb)
         have n3_ := Aside0.mk (Kd.R_below (pR HO_378001.out) hb)
         have n4_ := Aside0.mk (Kd.R_below (pR HO_378002.out) hb)
         have n5_ := Aside0.mk (Kd.R_below (pR HO385.out) hb)
         have n6_ := Aside0.mk (Kd.R_below (pR HO388.out) hb)
         have n7_ := Aside0.mk (blk_below (g := gb353) (pK BK353.out) hb)
         have n8_ := Aside0.mk (blk_below (g := gb368) (pK BK368.out) hb)
         have n9_ := Aside0.mk (blk_below (g := gb377) (pK BK377.out) hb)
         have n10_ := Aside0.mk (blk_below (g := gb390) (pK BK390.out) hb)
         have n11_ := Aside0.mk (below_step (pB4 HB.out GE353.out GE368.out GE377.out GE390.out) hb)
         have n12_ := Aside0.mk (hbox)
         have n13_ := Aside0.mk ((by rw [hg]; exact (below_size (pB4 HB.out GE353.out GE368.out GE377.out GE390.out)) : w.heap.size ≤ gb402))
         have n14_ := Aside0.mk ((by rw [hg]; exact (below_size (pB4 HB.out GE353.out GE368.out GE377.out GE390.out)) : w.heap.size ≤ gb402))
         have n15_ := Aside0.mk ((by rw [hg]; exact Nat.ne_of_lt (blk_lt (g := gb353) (pK BK353.out)) : gb353 ≠ gb402))
         have n16_ := Aside0.mk ((by rw [hg]; exact Nat.ne_of_gt (blk_lt (g := gb353) (pK BK353.out)) : gb402 ≠ gb353))
         have n17_ := Aside0.mk ((by rw [hg]; exact Nat.ne_of_lt (blk_lt (g := gb368) (pK BK368.out)) : gb368 ≠ gb402))
         have n18_ := Aside0.mk ((by rw [hg]; exact Nat.ne_of_gt (blk_lt (g := gb368) (pK BK368.out)) : gb402 ≠ gb368))
         have n19_ := Aside0.mk ((by rw [hg]; exact Nat.ne_of_lt (blk_lt (g := gb377) (pK BK377.out)) : gb377 ≠ gb402))
         have n20_ := Aside0.mk ((by rw [hg]; exact Nat.ne_of_gt (blk_lt (g := gb377) (pK BK377.out)) : gb402 ≠ gb377))
         have n21_ := Aside0.mk ((by rw [hg]; exact Nat.ne_of_lt (blk_lt (g := gb390) (pK BK390.out)) : gb390 ≠ gb402))
         have n22_ := Aside0.mk ((by rw [hg]; exact Nat.ne_of_gt (blk_lt (g := gb390) (pK BK390.out)) : gb402 ≠ gb390))
         clear HO_7
         clear HO_369001
         clear HO_369002
         clear HO_378001
         clear HO_378002
         clear HO385
         clear HO388
         clear BK353
         clear BK368
         clear BK377
         clear BK390
         clear HB
         have HO_7 := n0_
         have HO_369001 := n1_
         have HO_369002 := n2_
         have HO_378001 := n3_
         have HO_378002 := n4_
         have HO385 := n5_
         have HO388 := n6_
         have BK353 := n7_
         have BK368 := n8_
         have BK377 := n9_
         have BK390 := n10_
         have HB := n11_
         have BK402 := n12_
         have GW402 := n13_
         have GE402 := n14_
         have NB353_402 := n15_
         have NB402_353 := n16_
         have NB368_402 := n17_
         have NB402_368 := n18_
         have NB377_402 := n19_
         have NB402_377 := n20_
         have NB390_402 := n21_
         have NB402_390 := n22_
         clear n0_ n1_ n2_ n3_ n4_ n5_ n6_ n7_ n8_ n9_ n10_ n11_ n12_ n13_ n14_ n15_ n16_ n17_ n18_ n19_ n20_ n21_ n22_
         clear hb hbox hg
         refine hK.out _ _ ⟨(blk_cell BK390.out 0).trans rfl, (blk_cell BK390.out 1).trans rfl, (blk_cell BK390.out 2).trans rfl⟩ (fun hHeld => ?_)
         clear hK K
         refine norm_ (a' := ?_) ?_ ?_
         rotate_left
         ·show Act.put _ (some 14) _ = _
          simp only [Act.put, List.setIfInBounds_toArray, List.set_cons_zero, List.set_cons_succ, i64_w, i32_w]
          rfl
         refine one_ (i := 2) (N := some 67) #[true, true, true, false, false, false, false, true, false, false] rfl rfl (one_of HT_.out (by kernel_rfl)) (by decide) (fun K hK => ?_)
         refine goes_ Try.func22 (by kernel_rfl) rfl #[.slice A1 l1.length c1] (by rfl) rfl rfl pA ?_
         with_reducible refine (gradinelaw22_back.calls kj23 _ _ l1 t391 _ ?side1 ?side2 A53.out).mono ?_
         (case side1 => exact pC (Kd.C_below HR1.out HB.out))
         (case side2 => exact HC1.out)
         rintro e w70 ⟨v392, rfl, ho0, hb⟩
         refine ⟨_, rfl, ?_⟩
         have n0_ := Aside0.mk (Kd.R_elder' (pR HO_7.out) (Kd.R_base ho0) hb)
         have n1_ := Aside0.mk (Kd.R_elder' (pR HO_369001.out) (Kd.R_base ho0) hb)
         have n2_ := Aside0.mk (Kd.R_elder' (pR HO_369002.out) (Kd.R_base ho0) hb)
         have n3_ := Aside0.mk (Kd.R_elder' (pR HO_378001.out) (Kd.R_base ho0) hb)
         have n4_ := Aside0.mk (Kd.R_elder' (pR HO_378002.out) (Kd.R_base ho0) hb)
         have n5_ := Aside0.mk (Kd.R_elder' (pR HO385.out) (Kd.R_base ho0) hb)
         have n6_ := Aside0.mk (Kd.R_elder' (pR HO388.out) (Kd.R_base ho0) hb)
         have n7_ := Aside0.mk (Kd.R_lower (Kd.R_new' (Kd.R_new' (Kd.R_new' (Kd.R_new' (Kd.R_new' (Kd.R_new' (Kd.R_new' ho0 (Kd.R_lt (pR HO_7.out))) (Kd.R_lt (pR HO_369001.out))) (Kd.R_lt (pR HO_369002.out))) (Kd.R_lt (pR HO_378001.out))) (Kd.R_lt (pR HO_378002.out))) (Kd.R_lt (pR HO385.out))) (Kd.R_lt (pR HO388.out))) (below_size (pB5 HB.out GE353.out GE368.out GE377.out GE390.out GE402.out)))
         have n8_ := Aside0.mk (blk_below (g := gb353) (pK BK353.out) hb)
         have n9_ := Aside0.mk (blk_below (g := gb368) (pK BK368.out) hb)
         have n10_ := Aside0.mk (blk_below (g := gb377) (pK BK377.out) hb)
         have n11_ := Aside0.mk (blk_below (g := gb390) (pK BK390.out) hb)
         have n12_ := Aside0.mk (blk_below (g := gb402) (pK BK402.out) hb)
         have n13_ := Aside0.mk (below_step (pB5 HB.out GE353.out GE368.out GE377.out GE390.out GE402.out) hb)
         clear HO_7
         clear HO_369001
         clear HO_369002
         clear HO_378001
         clear HO_378002
         clear HO385
         clear HO388
         clear BK353
         clear BK368
         clear BK377
         clear BK390
         clear BK402
         clear HB
         have HO_7 := n0_
         have HO_369001 := n1_
         have HO_369002 := n2_
         have HO_378001 := n3_
         have HO_378002 := n4_
         have HO385 := n5_
         have HO388 := n6_
         have HO393 := n7_
         have BK353 := n8_
         have BK368 := n9_
         have BK377 := n10_
         have BK390 := n11_
         have BK402 := n12_
         have HB := n13_
         clear n0_ n1_ n2_ n3_ n4_ n5_ n6_ n7_ n8_ n9_ n10_ n11_ n12_ n13_
         (try clear hb)
         (try clear hb2)
         (try clear hk)
         (try clear hi)
         (try clear ho0)
         obtain ⟨Ao71, co71, eo71⟩ := Kd.R_slice HO393.out
         (first | subst eo71 | (injection eo71 with f1_ f2_ f3_; have f4_ := f1_.symm; have f5_ := f3_.symm; clear f1_ f2_ f3_; subst f4_; subst f5_))
         refine hK.out _ _ ⟨(blk_cell BK390.out 0).trans rfl, (blk_cell BK390.out 1).trans rfl, (blk_cell BK390.out 2).trans rfl⟩ (fun hHeld => ?_)
         clear hK K
         refine norm_ (a' := ?_) ?_ ?_
         rotate_left
         ·show Act.put _ (some 67) _ = _
          simp only [Act.put, List.setIfInBounds_toArray, List.set_cons_zero, List.set_cons_succ, i64_w, i32_w]
          rfl
         refine one_ (i := 3) (N := some 68) #[true, true, true, true, false, false, false, true, false, false] rfl rfl (one_of HT_.out (by kernel_rfl)) (by decide) (fun K hK => ?_)
         refine goes_ Try.func21 (by kernel_rfl) rfl #[.agg #[.int .i64 t382, .slice Ao65 t383.length co65, .slice Ao66 t386.length co66], .slice Ao71 t391.length co71] (by rfl) rfl rfl pA ?_
         with_reducible refine (view_Permute.calls kj23 t382 _ _ t383 _ _ t386 _ _ t391 t394 t395 t398 t401 _ ?side1 ?side2 ?side3 ?side4 ?side5 ?side6 A54.out).mono ?_
         (case side1 => exact pC (Kd.R_reads' HO385.out).2.2)
         (case side2 => exact (Kd.R_reads' HO385.out).2.1)
         (case side3 => exact pC (Kd.R_reads' HO388.out).2.2)
         (case side4 => exact (Kd.R_reads' HO388.out).2.1)
         (case side5 => exact pC (Kd.R_reads' HO393.out).2.2)
         (case side6 => exact (Kd.R_reads' HO393.out).2.1)
         rintro e w72 ⟨v396, v399, rfl, ho0, ho1, hb⟩
         refine ⟨_, rfl, ?_⟩
         have n0_ := Aside0.mk (Kd.R_mono (Kd.R_told (Kd.R_told (Kd.R_old (pR HO_7.out) hb) (Kd.R_base ho0)) (Kd.R_base ho1)) (fun _ h_ => h_.1))
         have n1_ := Aside0.mk (Kd.R_mono (Kd.R_told (Kd.R_told (Kd.R_old (pR HO_369001.out) hb) (Kd.R_base ho0)) (Kd.R_base ho1)) (fun _ h_ => h_.1))
         have n2_ := Aside0.mk (Kd.R_mono (Kd.R_told (Kd.R_told (Kd.R_old (pR HO_369002.out) hb) (Kd.R_base ho0)) (Kd.R_base ho1)) (fun _ h_ => h_.1))
         have n3_ := Aside0.mk (Kd.R_mono (Kd.R_told (Kd.R_told (Kd.R_old (pR HO_378001.out) hb) (Kd.R_base ho0)) (Kd.R_base ho1)) (fun _ h_ => h_.1))
         have n4_ := Aside0.mk (Kd.R_mono (Kd.R_told (Kd.R_told (Kd.R_old (pR HO_378002.out) hb) (Kd.R_base ho0)) (Kd.R_base ho1)) (fun _ h_ => h_.1))
         have n5_ := Aside0.mk (Kd.R_mono (Kd.R_told (Kd.R_told (Kd.R_old (pR HO385.out) hb) (Kd.R_base ho0)) (Kd.R_base ho1)) (fun _ h_ => h_.1))
         have n6_ := Aside0.mk (Kd.R_mono (Kd.R_told (Kd.R_told (Kd.R_old (pR HO388.out) hb) (Kd.R_base ho0)) (Kd.R_base ho1)) (fun _ h_ => h_.1))
         have n7_ := Aside0.mk (Kd.R_mono (Kd.R_told (Kd.R_told (Kd.R_old (pR HO393.out) hb) (Kd.R_base ho0)) (Kd.R_base ho1)) (fun _ h_ => h_.1))
         have n8_ := Aside0.mk (Kd.R_lower (Kd.R_new' (Kd.R_new' (Kd.R_new' (Kd.R_new' (Kd.R_new' (Kd.R_new' (Kd.R_new' (Kd.R_new' ho0 (Kd.R_lt (pR HO_7.out))) (Kd.R_lt (pR HO_369001.out))) (Kd.R_lt (pR HO_369002.out))) (Kd.R_lt (pR HO_378001.out))) (Kd.R_lt (pR HO_378002.out))) (Kd.R_lt (pR HO385.out))) (Kd.R_lt (pR HO388.out))) (Kd.R_lt (pR HO393.out))) (below_size (pB5 HB.out GE353.out GE368.out GE377.out GE390.out GE402.out)))
         have n9_ := Aside0.mk (Kd.R_lower (Kd.R_new' (Kd.R_new' (Kd.R_new' (Kd.R_new' (Kd.R_new' (Kd.R_new' (Kd.R_new' (Kd.R_new' ho1 (Kd.R_lt (pR HO_7.out))) (Kd.R_lt (pR HO_369001.out))) (Kd.R_lt (pR HO_369002.out))) (Kd.R_lt (pR HO_378001.out))) (Kd.R_lt (pR HO_378002.out))) (Kd.R_lt (pR HO385.out))) (Kd.R_lt (pR HO388.out))) (Kd.R_lt (pR HO393.out))) (below_size (pB5 HB.out GE353.out GE368.out GE377.out GE390.out GE402.out)))
         have n10_ := Aside0.mk (blk_below (g := gb353) (pK BK353.out) hb)
         have n11_ := Aside0.mk (blk_below (g := gb368) (pK BK368.out) hb)
         have n12_ := Aside0.mk (blk_below (g := gb377) (pK BK377.out) hb)
         have n13_ := Aside0.mk (blk_below (g := gb390) (pK BK390.out) hb)
         have n14_ := Aside0.mk (blk_below (g := gb402) (pK BK402.out) hb)
         have n15_ := Aside0.mk (below_step (pB5 HB.out GE353.out GE368.out GE377.out GE390.out GE402.out) hb)
         clear HO_7
         clear HO_369001
         clear HO_369002
         clear HO_378001
         clear HO_378002
         clear HO385
         clear HO388
         clear HO393
         clear BK353
         clear BK368
         clear BK377
         clear BK390
         clear BK402
         clear HB
         have HO_7 := n0_
         have HO_369001 := n1_
         have HO_369002 := n2_
         have HO_378001 := n3_
         have HO_378002 := n4_
         have HO385 := n5_
         have HO388 := n6_
         have HO393 := n7_
         have HO397 := n8_
         have HO400 := n9_
         have BK353 := n10_
         have BK368 := n11_
         have BK377 := n12_
         have BK390 := n13_
         have BK402 := n14_
         have HB := n15_
         clear n0_ n1_ n2_ n3_ n4_ n5_ n6_ n7_ n8_ n9_ n10_ n11_ n12_ n13_ n14_ n15_
         (try clear hb)
         (try clear hb2)
         (try clear hk)
         (try clear hi)
         (try clear ho0)
         (try clear ho1)
         refine hK.out _ _ ⟨(blk_cell BK390.out 0).trans rfl, (blk_cell BK390.out 1).trans rfl, (blk_cell BK390.out 2).trans rfl⟩ (fun hHeld => ?_)
         clear hK K
         refine norm_ (a' := ?_) ?_ ?_
         rotate_left
         ·show Act.put _ (some 68) _ = _
          simp only [Act.put, List.setIfInBounds_toArray, List.set_cons_zero, List.set_cons_succ, i64_w, i32_w]
          rfl
         refine pP (i := 4) (N := some 64) #[true, true, true, true, true, false, false, true, false, false] rfl rfl HT_.out ?_
         refine pP (i := 5) (N := some 69) #[true, true, true, true, true, true, false, true, false, false] rfl rfl HT_.out ?_
         refine pP (i := 6) (N := some 70) #[true, true, true, true, true, true, true, true, false, false] rfl rfl HT_.out ?_
         exact norm_ (by simp only [putAll, Act.put, List.setIfInBounds_toArray, List.set_cons_zero, List.set_cons_succ]) (hCont (.slice Ao71 t391.length co71, v396, v399, gb402) _ ⟨hHeld, (by (with_reducible repeat (first | apply Kd.R_alloc | apply Kd.R_drewN | apply Kd.R_drew)); exact Kd.R_mono HO385.out (fun _ hk => ⟨hk.1.1.1.2.2.2.2.2, ⟨hk.1.1.2, ⟨hk.1.2, ⟨hk.2, ⟨hk.1.1.1.2.1, ⟨hk.1.1.1.2.2.1, ⟨hk.1.1.1.2.2.2.1, ⟨hk.1.1.1.2.2.2.2.1, hk.1.1.1.1⟩⟩⟩⟩⟩⟩⟩⟩)), (by (with_reducible repeat (first | apply Kd.R_alloc | apply Kd.R_drewN | apply Kd.R_drew)); exact Kd.R_mono HO388.out (fun _ hk => ⟨hk.1.1.1.2.2.2.2.2, ⟨hk.1.1.2, ⟨hk.1.2, ⟨hk.2, ⟨hk.1.1.1.2.1, ⟨hk.1.1.1.2.2.1, ⟨hk.1.1.1.2.2.2.1, ⟨hk.1.1.1.2.2.2.2.1, hk.1.1.1.1⟩⟩⟩⟩⟩⟩⟩⟩)), (by (with_reducible repeat (first | apply Kd.R_alloc | apply Kd.R_drewN | apply Kd.R_drew)); exact Kd.R_mono HO393.out (fun _ hk => ⟨hk.1.1.1.2, ⟨hk.1.1.2, ⟨hk.1.2, ⟨hk.2, ⟨hk.1.1.1.1.1.1.1.2, ⟨hk.1.1.1.1.1.1.2, ⟨hk.1.1.1.1.1.2, ⟨hk.1.1.1.1.2, hk.1.1.1.1.1.1.1.1.2⟩⟩⟩⟩⟩⟩⟩⟩)), (by (with_reducible repeat (first | apply Kd.R_alloc | apply Kd.R_drewN | apply Kd.R_drew)); exact Kd.R_mono HO397.out (fun _ hk => ⟨hk.1.1.2, ⟨hk.1.2, ⟨hk.2, ⟨hk.1.1.1.1.1.1.1.1, ⟨hk.1.1.1.1.1.1.2, ⟨hk.1.1.1.1.1.2, ⟨hk.1.1.1.1.2, ⟨hk.1.1.1.2, hk.1.1.1.1.1.1.1.2⟩⟩⟩⟩⟩⟩⟩⟩)), (by (with_reducible repeat (first | apply Kd.R_alloc | apply Kd.R_drewN | apply Kd.R_drew)); exact Kd.R_mono HO400.out (fun _ hk => ⟨hk.1.1.2, ⟨hk.1.2, ⟨hk.2, ⟨hk.1.1.1.1.1.1.1.1, ⟨hk.1.1.1.1.1.1.2, ⟨hk.1.1.1.1.1.2, ⟨hk.1.1.1.1.2, ⟨hk.1.1.1.2, hk.1.1.1.1.1.1.1.2⟩⟩⟩⟩⟩⟩⟩⟩)), (by (with_reducible repeat (first | apply Kd.R_alloc | apply Kd.R_drewN | apply Kd.R_drew)); exact Kd.R_mono HO_369001.out (fun _ hk => ⟨hk.1.1.1.2.2.2.2.1, ⟨hk.1.1.1.2.2.2.2.2, ⟨hk.1.1.2, ⟨hk.1.2, ⟨hk.2, ⟨hk.1.1.1.2.1, ⟨hk.1.1.1.2.2.1, ⟨hk.1.1.1.2.2.2.1, hk.1.1.1.1⟩⟩⟩⟩⟩⟩⟩⟩)), (by (with_reducible repeat (first | apply Kd.R_alloc | apply Kd.R_drewN | apply Kd.R_drew)); exact Kd.R_mono HO_369002.out (fun _ hk => ⟨hk.1.1.1.2.2.2.2.1, ⟨hk.1.1.1.2.2.2.2.2, ⟨hk.1.1.2, ⟨hk.1.2, ⟨hk.2, ⟨hk.1.1.1.2.1, ⟨hk.1.1.1.2.2.1, ⟨hk.1.1.1.2.2.2.1, hk.1.1.1.1⟩⟩⟩⟩⟩⟩⟩⟩)), (by (with_reducible repeat (first | apply Kd.R_alloc | apply Kd.R_drewN | apply Kd.R_drew)); exact Kd.R_mono HO_378001.out (fun _ hk => ⟨hk.1.1.1.2.2.2.2.1, ⟨hk.1.1.1.2.2.2.2.2, ⟨hk.1.1.2, ⟨hk.1.2, ⟨hk.2, ⟨hk.1.1.1.2.1, ⟨hk.1.1.1.2.2.1, ⟨hk.1.1.1.2.2.2.1, hk.1.1.1.1⟩⟩⟩⟩⟩⟩⟩⟩)), (by (with_reducible repeat (first | apply Kd.R_alloc | apply Kd.R_drewN | apply Kd.R_drew)); exact Kd.R_mono HO_378002.out (fun _ hk => ⟨hk.1.1.1.2.2.2.2.1, ⟨hk.1.1.1.2.2.2.2.2, ⟨hk.1.1.2, ⟨hk.1.2, ⟨hk.2, ⟨hk.1.1.1.2.1, ⟨hk.1.1.1.2.2.1, ⟨hk.1.1.1.2.2.2.1, hk.1.1.1.1⟩⟩⟩⟩⟩⟩⟩⟩)), (by (with_reducible repeat (first | apply Kd.R_alloc | apply Kd.R_drewN | apply Kd.R_drew)); exact Kd.R_mono HO_7.out (fun _ hk => ⟨hk.1.1.1.2.2.2.2.1, ⟨hk.1.1.1.2.2.2.2.2, ⟨hk.1.1.2, ⟨hk.1.2, ⟨hk.2, ⟨hk.1.1.1.1, ⟨hk.1.1.1.2.1, ⟨hk.1.1.1.2.2.1, hk.1.1.1.2.2.2.1⟩⟩⟩⟩⟩⟩⟩⟩)), (pK BK353.out), (pK BK368.out), (pK BK377.out), (pK BK390.out), (pK BK402.out), GW402.out, GE402.out, NB353_402.out, NB402_353.out, NB368_402.out, NB402_368.out, NB377_402.out, NB402_377.out, NB390_402.out, NB402_390.out, (pB5 HB.out GE353.out GE368.out GE377.out GE390.out GE402.out)⟩)
       rintro ⟨v392, v396, v399, gb402⟩ w73 ⟨hS_, h0_, h1_, h2_, h3_, h4_, h5_, h6_, h7_, h8_, h9_, h10_, h11_, h12_, h13_, h14_, h15_, h16_, h17_, h18_, h19_, h20_, h21_, h22_, h23_, h24_, h25_⟩
       have n0_ : Aside0 (Kd.R (Kd.int .i64) 3 w73 w.heap.size (fun k_ => some k_ ≠ (.slice Ao66 t386.length co66 : Value).ownBlock ∧ some k_ ≠ (v392 : Value).ownBlock ∧ some k_ ≠ (v396 : Value).ownBlock ∧ some k_ ≠ (v399 : Value).ownBlock ∧ some k_ ≠ (.slice Ao32 t361.length co32 : Value).ownBlock ∧ some k_ ≠ (.slice Ao33 t364.length co33 : Value).ownBlock ∧ some k_ ≠ (.slice Ao39 t370.length co39 : Value).ownBlock ∧ some k_ ≠ (.slice Ao40 t373.length co40 : Value).ownBlock ∧ some k_ ≠ (v358 : Value).ownBlock) (.slice Ao65 t383.length co65) t383) := ⟨h0_⟩
       have n1_ : Aside0 (Kd.R (Kd.int .i64) 3 w73 w.heap.size (fun k_ => some k_ ≠ (.slice Ao65 t383.length co65 : Value).ownBlock ∧ some k_ ≠ (v392 : Value).ownBlock ∧ some k_ ≠ (v396 : Value).ownBlock ∧ some k_ ≠ (v399 : Value).ownBlock ∧ some k_ ≠ (.slice Ao32 t361.length co32 : Value).ownBlock ∧ some k_ ≠ (.slice Ao33 t364.length co33 : Value).ownBlock ∧ some k_ ≠ (.slice Ao39 t370.length co39 : Value).ownBlock ∧ some k_ ≠ (.slice Ao40 t373.length co40 : Value).ownBlock ∧ some k_ ≠ (v358 : Value).ownBlock) (.slice Ao66 t386.length co66) t386) := ⟨h1_⟩
       have n2_ : Aside0 (Kd.R (Kd.int .i64) 3 w73 w.heap.size (fun k_ => some k_ ≠ (.slice Ao65 t383.length co65 : Value).ownBlock ∧ some k_ ≠ (.slice Ao66 t386.length co66 : Value).ownBlock ∧ some k_ ≠ (v396 : Value).ownBlock ∧ some k_ ≠ (v399 : Value).ownBlock ∧ some k_ ≠ (.slice Ao32 t361.length co32 : Value).ownBlock ∧ some k_ ≠ (.slice Ao33 t364.length co33 : Value).ownBlock ∧ some k_ ≠ (.slice Ao39 t370.length co39 : Value).ownBlock ∧ some k_ ≠ (.slice Ao40 t373.length co40 : Value).ownBlock ∧ some k_ ≠ (v358 : Value).ownBlock) v392 t391) := ⟨h2_⟩
       have n3_ : Aside0 (Kd.R (Kd.int .i64) 3 w73 w.heap.size (fun k_ => some k_ ≠ (.slice Ao65 t383.length co65 : Value).ownBlock ∧ some k_ ≠ (.slice Ao66 t386.length co66 : Value).ownBlock ∧ some k_ ≠ (v392 : Value).ownBlock ∧ some k_ ≠ (v399 : Value).ownBlock ∧ some k_ ≠ (.slice Ao32 t361.length co32 : Value).ownBlock ∧ some k_ ≠ (.slice Ao33 t364.length co33 : Value).ownBlock ∧ some k_ ≠ (.slice Ao39 t370.length co39 : Value).ownBlock ∧ some k_ ≠ (.slice Ao40 t373.length co40 : Value).ownBlock ∧ some k_ ≠ (v358 : Value).ownBlock) v396 t395) := ⟨h3_⟩
       have n4_ : Aside0 (Kd.R (Kd.int .i64) 3 w73 w.heap.size (fun k_ => some k_ ≠ (.slice Ao65 t383.length co65 : Value).ownBlock ∧ some k_ ≠ (.slice Ao66 t386.length co66 : Value).ownBlock ∧ some k_ ≠ (v392 : Value).ownBlock ∧ some k_ ≠ (v396 : Value).ownBlock ∧ some k_ ≠ (.slice Ao32 t361.length co32 : Value).ownBlock ∧ some k_ ≠ (.slice Ao33 t364.length co33 : Value).ownBlock ∧ some k_ ≠ (.slice Ao39 t370.length co39 : Value).ownBlock ∧ some k_ ≠ (.slice Ao40 t373.length co40 : Value).ownBlock ∧ some k_ ≠ (v358 : Value).ownBlock) v399 t398) := ⟨h4_⟩
       have n5_ : Aside0 (Kd.R (Kd.int .i64) 3 w73 w.heap.size (fun k_ => some k_ ≠ (.slice Ao65 t383.length co65 : Value).ownBlock ∧ some k_ ≠ (.slice Ao66 t386.length co66 : Value).ownBlock ∧ some k_ ≠ (v392 : Value).ownBlock ∧ some k_ ≠ (v396 : Value).ownBlock ∧ some k_ ≠ (v399 : Value).ownBlock ∧ some k_ ≠ (.slice Ao33 t364.length co33 : Value).ownBlock ∧ some k_ ≠ (.slice Ao39 t370.length co39 : Value).ownBlock ∧ some k_ ≠ (.slice Ao40 t373.length co40 : Value).ownBlock ∧ some k_ ≠ (v358 : Value).ownBlock) (.slice Ao32 t361.length co32) t361) := ⟨h5_⟩
       have n6_ : Aside0 (Kd.R (Kd.int .i64) 3 w73 w.heap.size (fun k_ => some k_ ≠ (.slice Ao65 t383.length co65 : Value).ownBlock ∧ some k_ ≠ (.slice Ao66 t386.length co66 : Value).ownBlock ∧ some k_ ≠ (v392 : Value).ownBlock ∧ some k_ ≠ (v396 : Value).ownBlock ∧ some k_ ≠ (v399 : Value).ownBlock ∧ some k_ ≠ (.slice Ao32 t361.length co32 : Value).ownBlock ∧ some k_ ≠ (.slice Ao39 t370.length co39 : Value).ownBlock ∧ some k_ ≠ (.slice Ao40 t373.length co40 : Value).ownBlock ∧ some k_ ≠ (v358 : Value).ownBlock) (.slice Ao33 t364.length co33) t364) := ⟨h6_⟩
       have n7_ : Aside0 (Kd.R (Kd.int .i64) 3 w73 w.heap.size (fun k_ => some k_ ≠ (.slice Ao65 t383.length co65 : Value).ownBlock ∧ some k_ ≠ (.slice Ao66 t386.length co66 : Value).ownBlock ∧ some k_ ≠ (v392 : Value).ownBlock ∧ some k_ ≠ (v396 : Value).ownBlock ∧ some k_ ≠ (v399 : Value).ownBlock ∧ some k_ ≠ (.slice Ao32 t361.length co32 : Value).ownBlock ∧ some k_ ≠ (.slice Ao33 t364.length co33 : Value).ownBlock ∧ some k_ ≠ (.slice Ao40 t373.length co40 : Value).ownBlock ∧ some k_ ≠ (v358 : Value).ownBlock) (.slice Ao39 t370.length co39) t370) := ⟨h7_⟩
       have n8_ : Aside0 (Kd.R (Kd.int .i64) 3 w73 w.heap.size (fun k_ => some k_ ≠ (.slice Ao65 t383.length co65 : Value).ownBlock ∧ some k_ ≠ (.slice Ao66 t386.length co66 : Value).ownBlock ∧ some k_ ≠ (v392 : Value).ownBlock ∧ some k_ ≠ (v396 : Value).ownBlock ∧ some k_ ≠ (v399 : Value).ownBlock ∧ some k_ ≠ (.slice Ao32 t361.length co32 : Value).ownBlock ∧ some k_ ≠ (.slice Ao33 t364.length co33 : Value).ownBlock ∧ some k_ ≠ (.slice Ao39 t370.length co39 : Value).ownBlock ∧ some k_ ≠ (v358 : Value).ownBlock) (.slice Ao40 t373.length co40) t373) := ⟨h8_⟩
       have n9_ : Aside0 (Kd.R (Kd.int .i64) 3 w73 w.heap.size (fun k_ => some k_ ≠ (.slice Ao65 t383.length co65 : Value).ownBlock ∧ some k_ ≠ (.slice Ao66 t386.length co66 : Value).ownBlock ∧ some k_ ≠ (v392 : Value).ownBlock ∧ some k_ ≠ (v396 : Value).ownBlock ∧ some k_ ≠ (v399 : Value).ownBlock ∧ some k_ ≠ (.slice Ao32 t361.length co32 : Value).ownBlock ∧ some k_ ≠ (.slice Ao33 t364.length co33 : Value).ownBlock ∧ some k_ ≠ (.slice Ao39 t370.length co39 : Value).ownBlock ∧ some k_ ≠ (.slice Ao40 t373.length co40 : Value).ownBlock) v358 t357) := ⟨h9_⟩
       have n10_ : Aside0 (w73.heap[gb353]? = some (.cells #[.int .i64 a0_0, .slice A0_1 l0_1.length c0_1, .slice A0_2 l0_2.length c0_2] 24 (0, 0))) := ⟨h10_⟩
       have n11_ : Aside0 (w73.heap[gb368]? = some (.cells #[.int .i64 t360, .slice Ao32 t361.length co32, .slice Ao33 t364.length co33] 24 (0, 0))) := ⟨h11_⟩
       have n12_ : Aside0 (w73.heap[gb377]? = some (.cells #[.int .i64 t369, .slice Ao39 t370.length co39, .slice Ao40 t373.length co40] 24 (0, 0))) := ⟨h12_⟩
       have n13_ : Aside0 (w73.heap[gb390]? = some (.cells #[.int .i64 t382, .slice Ao65 t383.length co65, .slice Ao66 t386.length co66] 24 (0, 0))) := ⟨h13_⟩
       have n14_ : Aside0 (w73.heap[gb402]? = some (.cells #[.int .i64 0, .slice none 0 0, .slice none 0 0] 24 (0, 0))) := ⟨h14_⟩
       have n15_ : Aside0 (w.heap.size ≤ gb402) := ⟨h15_⟩
       have n16_ : Aside0 (w.heap.size ≤ gb402) := ⟨h16_⟩
       have n17_ : Aside0 (gb353 ≠ gb402) := ⟨h17_⟩
       have n18_ : Aside0 (gb402 ≠ gb353) := ⟨h18_⟩
       have n19_ : Aside0 (gb368 ≠ gb402) := ⟨h19_⟩
       have n20_ : Aside0 (gb402 ≠ gb368) := ⟨h20_⟩
       have n21_ : Aside0 (gb377 ≠ gb402) := ⟨h21_⟩
       have n22_ : Aside0 (gb402 ≠ gb377) := ⟨h22_⟩
       have n23_ : Aside0 (gb390 ≠ gb402) := ⟨h23_⟩
       have n24_ : Aside0 (gb402 ≠ gb390) := ⟨h24_⟩
       have n25_ : Aside0 (Below w.heap.size w w73) := ⟨h25_⟩
       clear HO_7
       clear HO_369001
       clear HO_369002
       clear HO_378001
       clear HO_378002
       clear HO385
       clear HO388
       clear BK353
       clear BK368
       clear BK377
       clear BK390
       clear HB
       clear h0_ h1_ h2_ h3_ h4_ h5_ h6_ h7_ h8_ h9_ h10_ h11_ h12_ h13_ h14_ h15_ h16_ h17_ h18_ h19_ h20_ h21_ h22_ h23_ h24_ h25_
       have HO385 := n0_
       have HO388 := n1_
       have HO393 := n2_
       have HO397 := n3_
       have HO400 := n4_
       have HO_369001 := n5_
       have HO_369002 := n6_
       have HO_378001 := n7_
       have HO_378002 := n8_
       have HO_7 := n9_
       have BK353 := n10_
       have BK368 := n11_
       have BK377 := n12_
       have BK390 := n13_
       have BK402 := n14_
       have GW402 := n15_
       have GE402 := n16_
       have NB353_402 := n17_
       have NB402_353 := n18_
       have NB368_402 := n19_
       have NB402_368 := n20_
       have NB377_402 := n21_
       have NB402_377 := n22_
       have NB390_402 := n23_
       have NB402_390 := n24_
       have HB := n25_
       clear n0_ n1_ n2_ n3_ n4_ n5_ n6_ n7_ n8_ n9_ n10_ n11_ n12_ n13_ n14_ n15_ n16_ n17_ n18_ n19_ n20_ n21_ n22_ n23_ n24_ n25_
       have hHeld : w73.cell? ⟨gb390, 0, none⟩ = some (.int .i64 t382) ∧ w73.cell? ⟨gb390, 1, none⟩ = some (.slice Ao65 t383.length co65) ∧ w73.cell? ⟨gb390, 2, none⟩ = some (.slice Ao66 t386.length co66) := hS_
       obtain ⟨Ao75, co75, eo75⟩ := Kd.R_slice HO397.out
       (first | subst eo75 | (injection eo75 with f1_ f2_ f3_; have f4_ := f1_.symm; have f5_ := f3_.symm; clear f1_ f2_ f3_; subst f4_; subst f5_))
       obtain ⟨Ao77, co77, eo77⟩ := Kd.R_slice HO400.out
       (first | subst eo77 | (injection eo77 with f1_ f2_ f3_; have f4_ := f1_.symm; have f5_ := f3_.symm; clear f1_ f2_ f3_; subst f4_; subst f5_))
       refine norm_ (a' := ?_) ?_ ?_
       rotate_left
       ·simp only [putAll, Act.put, List.setIfInBounds_toArray, List.set_cons_zero, List.set_cons_succ]
        rfl
       refine one_ (i := 8) (N := none) #[true, true, true, true, true, true, true, true, true, false] rfl rfl (one_of HT_.out (by kernel_rfl)) (by decide) (fun K hK => ?_)
       have hs74 : w73.cell? ⟨gb402, 0, none⟩ = some (.int .i64 0) := (blk_cell BK402.out 0).trans rfl
       have hfs74 := blk_frozen BK402.out 0
       have hns74_0 := NB353_402.out
       have hns74_1 := NB368_402.out
       have hns74_2 := NB377_402.out
       have hns74_3 := NB390_402.out
       have hms74_0 := NB402_353.out
       have hms74_1 := NB402_368.out
       have hms74_2 := NB402_377.out
       have hms74_3 := NB402_390.out
       have hs76 : w73.cell? ⟨gb402, 1, none⟩ = some (.slice none 0 0) := (blk_cell BK402.out 1).trans rfl
       have hfs76 := blk_frozen BK402.out 1
       have hns76_0 := NB353_402.out
       have hns76_1 := NB368_402.out
       have hns76_2 := NB377_402.out
       have hns76_3 := NB390_402.out
       have hms76_0 := NB402_353.out
       have hms76_1 := NB402_368.out
       have hms76_2 := NB402_377.out
       have hms76_3 := NB402_390.out
       have hs78 : w73.cell? ⟨gb402, 2, none⟩ = some (.slice none 0 0) := (blk_cell BK402.out 2).trans rfl
       have hfs78 := blk_frozen BK402.out 2
       have hns78_0 := NB353_402.out
       have hns78_1 := NB368_402.out
       have hns78_2 := NB377_402.out
       have hns78_3 := NB390_402.out
       have hms78_0 := NB402_353.out
       have hms78_1 := NB402_368.out
       have hms78_2 := NB402_377.out
       have hms78_3 := NB402_390.out
       refine skip_ (w1 := ?_) (by rfl) rfl ?_ ?_
       rotate_left
       ·go_simp
        rfl
       refine hK.out _ _ ⟨((cell_far (p := ⟨gb402, _, none⟩) NB390_402.out _).trans (((cell_far (p := ⟨gb402, _, none⟩) NB390_402.out _).trans (((cell_far (p := ⟨gb402, _, none⟩) NB390_402.out _).trans (hHeld.1)))))), ((cell_far (p := ⟨gb402, _, none⟩) NB390_402.out _).trans (((cell_far (p := ⟨gb402, _, none⟩) NB390_402.out _).trans (((cell_far (p := ⟨gb402, _, none⟩) NB390_402.out _).trans (hHeld.2.1)))))), ((cell_far (p := ⟨gb402, _, none⟩) NB390_402.out _).trans (((cell_far (p := ⟨gb402, _, none⟩) NB390_402.out _).trans (((cell_far (p := ⟨gb402, _, none⟩) NB390_402.out _).trans (hHeld.2.2))))))⟩ (fun hHeld => ?_)
       clear hK K
       refine pP (i := 9) (N := some 15) #[true, true, true, true, true, true, true, true, true, true] rfl rfl HT_.out ?_
       refine done_ (done_of HT_.out (by kernel_rfl)) ?_
       go_upto_region 10 with (fail)
       go_cut [83] (fun v83 wc => ∃ (kq : Nat) (x83_54 : Bool), v83 = .bool x83_54 ∧ Aside0 (gradinelaw22_ViewTwice.j2 kq t357 t367 t389 x83_54 t360 t361 t364 t382 t383 t386 = some true) ∧ Aside0 (kq ≤ kj23) ∧ Aside0 (Kd.R (Kd.int .i64) 3 wc w.heap.size (fun k_ => some k_ ≠ ((.slice Ao32 t361.length co32) : Value).ownBlock ∧ some k_ ≠ ((.slice Ao33 t364.length co33) : Value).ownBlock ∧ some k_ ≠ ((.slice Ao39 t370.length co39) : Value).ownBlock ∧ some k_ ≠ ((.slice Ao40 t373.length co40) : Value).ownBlock ∧ some k_ ≠ ((.slice Ao65 t383.length co65) : Value).ownBlock ∧ some k_ ≠ ((.slice Ao66 t386.length co66) : Value).ownBlock ∧ some k_ ≠ ((.slice Ao75 t395.length co75) : Value).ownBlock ∧ some k_ ≠ ((.slice Ao77 t398.length co77) : Value).ownBlock) v358 t357) ∧ Aside0 (Kd.R (Kd.int .i64) 3 wc w.heap.size (fun k_ => some k_ ≠ (v358 : Value).ownBlock ∧ some k_ ≠ ((.slice Ao33 t364.length co33) : Value).ownBlock ∧ some k_ ≠ ((.slice Ao39 t370.length co39) : Value).ownBlock ∧ some k_ ≠ ((.slice Ao40 t373.length co40) : Value).ownBlock ∧ some k_ ≠ ((.slice Ao65 t383.length co65) : Value).ownBlock ∧ some k_ ≠ ((.slice Ao66 t386.length co66) : Value).ownBlock ∧ some k_ ≠ ((.slice Ao75 t395.length co75) : Value).ownBlock ∧ some k_ ≠ ((.slice Ao77 t398.length co77) : Value).ownBlock) (.slice Ao32 t361.length co32) t361) ∧ Aside0 (Kd.R (Kd.int .i64) 3 wc w.heap.size (fun k_ => some k_ ≠ (v358 : Value).ownBlock ∧ some k_ ≠ ((.slice Ao32 t361.length co32) : Value).ownBlock ∧ some k_ ≠ ((.slice Ao39 t370.length co39) : Value).ownBlock ∧ some k_ ≠ ((.slice Ao40 t373.length co40) : Value).ownBlock ∧ some k_ ≠ ((.slice Ao65 t383.length co65) : Value).ownBlock ∧ some k_ ≠ ((.slice Ao66 t386.length co66) : Value).ownBlock ∧ some k_ ≠ ((.slice Ao75 t395.length co75) : Value).ownBlock ∧ some k_ ≠ ((.slice Ao77 t398.length co77) : Value).ownBlock) (.slice Ao33 t364.length co33) t364) ∧ Aside0 (Kd.R (Kd.int .i64) 3 wc w.heap.size (fun k_ => some k_ ≠ (v358 : Value).ownBlock ∧ some k_ ≠ ((.slice Ao32 t361.length co32) : Value).ownBlock ∧ some k_ ≠ ((.slice Ao33 t364.length co33) : Value).ownBlock ∧ some k_ ≠ ((.slice Ao40 t373.length co40) : Value).ownBlock ∧ some k_ ≠ ((.slice Ao65 t383.length co65) : Value).ownBlock ∧ some k_ ≠ ((.slice Ao66 t386.length co66) : Value).ownBlock ∧ some k_ ≠ ((.slice Ao75 t395.length co75) : Value).ownBlock ∧ some k_ ≠ ((.slice Ao77 t398.length co77) : Value).ownBlock) (.slice Ao39 t370.length co39) t370) ∧ Aside0 (Kd.R (Kd.int .i64) 3 wc w.heap.size (fun k_ => some k_ ≠ (v358 : Value).ownBlock ∧ some k_ ≠ ((.slice Ao32 t361.length co32) : Value).ownBlock ∧ some k_ ≠ ((.slice Ao33 t364.length co33) : Value).ownBlock ∧ some k_ ≠ ((.slice Ao39 t370.length co39) : Value).ownBlock ∧ some k_ ≠ ((.slice Ao65 t383.length co65) : Value).ownBlock ∧ some k_ ≠ ((.slice Ao66 t386.length co66) : Value).ownBlock ∧ some k_ ≠ ((.slice Ao75 t395.length co75) : Value).ownBlock ∧ some k_ ≠ ((.slice Ao77 t398.length co77) : Value).ownBlock) (.slice Ao40 t373.length co40) t373) ∧ Aside0 (Kd.R (Kd.int .i64) 3 wc w.heap.size (fun k_ => some k_ ≠ (v358 : Value).ownBlock ∧ some k_ ≠ ((.slice Ao32 t361.length co32) : Value).ownBlock ∧ some k_ ≠ ((.slice Ao33 t364.length co33) : Value).ownBlock ∧ some k_ ≠ ((.slice Ao39 t370.length co39) : Value).ownBlock ∧ some k_ ≠ ((.slice Ao40 t373.length co40) : Value).ownBlock ∧ some k_ ≠ ((.slice Ao66 t386.length co66) : Value).ownBlock ∧ some k_ ≠ ((.slice Ao75 t395.length co75) : Value).ownBlock ∧ some k_ ≠ ((.slice Ao77 t398.length co77) : Value).ownBlock) (.slice Ao65 t383.length co65) t383) ∧ Aside0 (Kd.R (Kd.int .i64) 3 wc w.heap.size (fun k_ => some k_ ≠ (v358 : Value).ownBlock ∧ some k_ ≠ ((.slice Ao32 t361.length co32) : Value).ownBlock ∧ some k_ ≠ ((.slice Ao33 t364.length co33) : Value).ownBlock ∧ some k_ ≠ ((.slice Ao39 t370.length co39) : Value).ownBlock ∧ some k_ ≠ ((.slice Ao40 t373.length co40) : Value).ownBlock ∧ some k_ ≠ ((.slice Ao65 t383.length co65) : Value).ownBlock ∧ some k_ ≠ ((.slice Ao75 t395.length co75) : Value).ownBlock ∧ some k_ ≠ ((.slice Ao77 t398.length co77) : Value).ownBlock) (.slice Ao66 t386.length co66) t386) ∧ Aside0 (Kd.R (Kd.int .i64) 3 wc w.heap.size (fun k_ => some k_ ≠ (v358 : Value).ownBlock ∧ some k_ ≠ ((.slice Ao32 t361.length co32) : Value).ownBlock ∧ some k_ ≠ ((.slice Ao33 t364.length co33) : Value).ownBlock ∧ some k_ ≠ ((.slice Ao39 t370.length co39) : Value).ownBlock ∧ some k_ ≠ ((.slice Ao40 t373.length co40) : Value).ownBlock ∧ some k_ ≠ ((.slice Ao65 t383.length co65) : Value).ownBlock ∧ some k_ ≠ ((.slice Ao66 t386.length co66) : Value).ownBlock ∧ some k_ ≠ ((.slice Ao77 t398.length co77) : Value).ownBlock) (.slice Ao75 t395.length co75) t395) ∧ Aside0 (Kd.R (Kd.int .i64) 3 wc w.heap.size (fun k_ => some k_ ≠ (v358 : Value).ownBlock ∧ some k_ ≠ ((.slice Ao32 t361.length co32) : Value).ownBlock ∧ some k_ ≠ ((.slice Ao33 t364.length co33) : Value).ownBlock ∧ some k_ ≠ ((.slice Ao39 t370.length co39) : Value).ownBlock ∧ some k_ ≠ ((.slice Ao40 t373.length co40) : Value).ownBlock ∧ some k_ ≠ ((.slice Ao65 t383.length co65) : Value).ownBlock ∧ some k_ ≠ ((.slice Ao66 t386.length co66) : Value).ownBlock ∧ some k_ ≠ ((.slice Ao75 t395.length co75) : Value).ownBlock) (.slice Ao77 t398.length co77) t398) ∧ Aside0 (wc.heap[gb353]? = some (.cells #[.int .i64 a0_0, (.slice A0_1 l0_1.length c0_1), (.slice A0_2 l0_2.length c0_2)] 24 (0, 0))) ∧ Aside0 (wc.heap[gb368]? = some (.cells #[.int .i64 t360, (.slice Ao32 t361.length co32), (.slice Ao33 t364.length co33)] 24 (0, 0))) ∧ Aside0 (wc.heap[gb377]? = some (.cells #[.int .i64 t369, (.slice Ao39 t370.length co39), (.slice Ao40 t373.length co40)] 24 (0, 0))) ∧ Aside0 (wc.heap[gb390]? = some (.cells #[.int .i64 t382, (.slice Ao65 t383.length co65), (.slice Ao66 t386.length co66)] 24 (0, 0))) ∧ Aside0 (wc.heap[gb402]? = some (.cells #[.int .i64 t394, (.slice Ao75 t395.length co75), (.slice Ao77 t398.length co77)] 24 (0, 0))) ∧ Aside0 (Below w.heap.size w wc))
       case first =>
        have H := HC55.out
        clear HC55
        by_cases c79 : t389 = 0
        ·rw [if_pos c79] at H
         have c79b0 : (t389 == 0) = true := beq_iff_eq.mpr c79
         have c79b1 : (t389 != 0) = false := bne_eq_false_iff_eq.mpr c79
         clear c79
         (first | rw [c79b0] | (simp only [i64_w, i32_w]; rw [c79b0]) | skip)
         by_cases c80 : t401 = 0
         ·rw [if_pos c80] at H
          have c80b0 : (t401 == 0) = true := beq_iff_eq.mpr c80
          have c80b1 : (t401 != 0) = false := bne_eq_false_iff_eq.mpr c80
          clear c80
          replace H := Option.bind_eq_some_iff.mp H
          obtain ⟨t403, A810, H⟩ := H
          replace H : ((gradineplain_Ints.f kj23 t403 t357).bind fun t406 => (gradinelaw22_ViewTwice.j2 kj23 t357 t367 t389 (!t406) t360 t361 t364 t382 t383 t386)) = some true := H
          have A81 := Aside0.mk A810
          clear A810
          replace H := Option.bind_eq_some_iff.mp H
          obtain ⟨t406, A820, H⟩ := H
          replace H : (gradinelaw22_ViewTwice.j2 kj23 t357 t367 t389 (!t406) t360 t361 t364 t382 t383 t386) = some true := H
          have A82 := Aside0.mk A820
          clear A820
          have H' := Aside0.mk H
          clear H
          have hnb83 := NB402_353.out
          have hnc83 := NB353_402.out
          have hnb84 := NB402_368.out
          have hnc84 := NB368_402.out
          have hnb85 := NB402_377.out
          have hnc85 := NB377_402.out
          have hnb86 := NB402_390.out
          have hnc86 := NB390_402.out
          have hcz87_0 : w73.cell? ⟨gb402, 0, none⟩ = some (.int .i64 0) := (blk_cell BK402.out 0).trans rfl
          have hcz87_1 : w73.cell? ⟨gb402, 1, none⟩ = some (.slice none 0 0) := (blk_cell BK402.out 1).trans rfl
          have hcz87_2 : w73.cell? ⟨gb402, 2, none⟩ = some (.slice none 0 0) := (blk_cell BK402.out 2).trans rfl
          have hfz87_0 := blk_frozen BK402.out 0
          have hfz87_1 := blk_frozen BK402.out 1
          have hfz87_2 := blk_frozen BK402.out 2
          go_wp2_with (first | (go_at_call 10; (with_reducible refine (gradineref22_Cells.calls kj23 t394 _ _ t395 _ _ t398 64 t403 _ ?side1 ?side2 ?side3 ?side4 A81.out).mono ?_); (case side1 => refine (Kd.R_reads' (e := 3) (base := w.heap.size) (ok := fun k_ => (some k_ ≠ (.slice Ao65 t383.length co65 : Value).ownBlock ∧ (some k_ ≠ (.slice Ao66 t386.length co66 : Value).ownBlock ∧ (some k_ ≠ (v392 : Value).ownBlock ∧ (some k_ ≠ (.slice Ao77 t398.length co77 : Value).ownBlock ∧ (some k_ ≠ (.slice Ao32 t361.length co32 : Value).ownBlock ∧ (some k_ ≠ (.slice Ao33 t364.length co33 : Value).ownBlock ∧ (some k_ ≠ (.slice Ao39 t370.length co39 : Value).ownBlock ∧ (some k_ ≠ (.slice Ao40 t373.length co40 : Value).ownBlock ∧ some k_ ≠ (v358 : Value).ownBlock))))))))) (n := t395.length) (c := co75) ?_).2.2; exact (by (with_reducible repeat (first | apply Kd.R_alloc | apply Kd.R_drewN | apply Kd.R_drew)); exact (Kd.R_mono (Kd.R_far (p := ⟨gb402, 2, none⟩) (Kd.R_far (p := ⟨gb402, 1, none⟩) (Kd.R_far (p := ⟨gb402, 0, none⟩) (Kd.R_types HO397.out BK402.out (by decide)) (fun _ hk => hk.2) (.int .i64 t394)) (fun _ hk => hk.2) (.slice Ao75 t395.length co75)) (fun _ hk => hk.2) (.slice Ao77 t398.length co77)) (fun _ h_ => h_.1)))); (case side2 => exact (Kd.R_reads' HO397.out).2.1); (case side3 => refine (Kd.R_reads' (e := 3) (base := w.heap.size) (ok := fun k_ => (some k_ ≠ (.slice Ao65 t383.length co65 : Value).ownBlock ∧ (some k_ ≠ (.slice Ao66 t386.length co66 : Value).ownBlock ∧ (some k_ ≠ (v392 : Value).ownBlock ∧ (some k_ ≠ (.slice Ao75 t395.length co75 : Value).ownBlock ∧ (some k_ ≠ (.slice Ao32 t361.length co32 : Value).ownBlock ∧ (some k_ ≠ (.slice Ao33 t364.length co33 : Value).ownBlock ∧ (some k_ ≠ (.slice Ao39 t370.length co39 : Value).ownBlock ∧ (some k_ ≠ (.slice Ao40 t373.length co40 : Value).ownBlock ∧ some k_ ≠ (v358 : Value).ownBlock))))))))) (n := t398.length) (c := co77) ?_).2.2; exact (by (with_reducible repeat (first | apply Kd.R_alloc | apply Kd.R_drewN | apply Kd.R_drew)); exact (Kd.R_mono (Kd.R_far (p := ⟨gb402, 2, none⟩) (Kd.R_far (p := ⟨gb402, 1, none⟩) (Kd.R_far (p := ⟨gb402, 0, none⟩) (Kd.R_types HO400.out BK402.out (by decide)) (fun _ hk => hk.2) (.int .i64 t394)) (fun _ hk => hk.2) (.slice Ao75 t395.length co75)) (fun _ hk => hk.2) (.slice Ao77 t398.length co77)) (fun _ h_ => h_.1)))); (case side4 => exact (Kd.R_reads' HO400.out).2.1); rintro e w88 ⟨v404, rfl, ho0, hb⟩; have n0_ := Aside0.mk (Kd.R_elder' (by (with_reducible repeat (first | apply Kd.R_alloc | apply Kd.R_drewN | apply Kd.R_drew)); exact (Kd.R_mono (Kd.R_far (p := ⟨gb402, 2, none⟩) (Kd.R_far (p := ⟨gb402, 1, none⟩) (Kd.R_far (p := ⟨gb402, 0, none⟩) (Kd.R_types HO_7.out BK402.out (by decide)) (fun _ hk => hk.2) (.int .i64 t394)) (fun _ hk => hk.2) (.slice Ao75 t395.length co75)) (fun _ hk => hk.2) (.slice Ao77 t398.length co77)) (fun _ h_ => h_.1))) (Kd.R_base ho0) hb); have n1_ := Aside0.mk (Kd.R_elder' (by (with_reducible repeat (first | apply Kd.R_alloc | apply Kd.R_drewN | apply Kd.R_drew)); exact (Kd.R_mono (Kd.R_far (p := ⟨gb402, 2, none⟩) (Kd.R_far (p := ⟨gb402, 1, none⟩) (Kd.R_far (p := ⟨gb402, 0, none⟩) (Kd.R_types HO_369001.out BK402.out (by decide)) (fun _ hk => hk.2) (.int .i64 t394)) (fun _ hk => hk.2) (.slice Ao75 t395.length co75)) (fun _ hk => hk.2) (.slice Ao77 t398.length co77)) (fun _ h_ => h_.1))) (Kd.R_base ho0) hb); have n2_ := Aside0.mk (Kd.R_elder' (by (with_reducible repeat (first | apply Kd.R_alloc | apply Kd.R_drewN | apply Kd.R_drew)); exact (Kd.R_mono (Kd.R_far (p := ⟨gb402, 2, none⟩) (Kd.R_far (p := ⟨gb402, 1, none⟩) (Kd.R_far (p := ⟨gb402, 0, none⟩) (Kd.R_types HO_369002.out BK402.out (by decide)) (fun _ hk => hk.2) (.int .i64 t394)) (fun _ hk => hk.2) (.slice Ao75 t395.length co75)) (fun _ hk => hk.2) (.slice Ao77 t398.length co77)) (fun _ h_ => h_.1))) (Kd.R_base ho0) hb); have n3_ := Aside0.mk (Kd.R_elder' (by (with_reducible repeat (first | apply Kd.R_alloc | apply Kd.R_drewN | apply Kd.R_drew)); exact (Kd.R_mono (Kd.R_far (p := ⟨gb402, 2, none⟩) (Kd.R_far (p := ⟨gb402, 1, none⟩) (Kd.R_far (p := ⟨gb402, 0, none⟩) (Kd.R_types HO_378001.out BK402.out (by decide)) (fun _ hk => hk.2) (.int .i64 t394)) (fun _ hk => hk.2) (.slice Ao75 t395.length co75)) (fun _ hk => hk.2) (.slice Ao77 t398.length co77)) (fun _ h_ => h_.1))) (Kd.R_base ho0) hb); have n4_ := Aside0.mk (Kd.R_elder' (by (with_reducible repeat (first | apply Kd.R_alloc | apply Kd.R_drewN | apply Kd.R_drew)); exact (Kd.R_mono (Kd.R_far (p := ⟨gb402, 2, none⟩) (Kd.R_far (p := ⟨gb402, 1, none⟩) (Kd.R_far (p := ⟨gb402, 0, none⟩) (Kd.R_types HO_378002.out BK402.out (by decide)) (fun _ hk => hk.2) (.int .i64 t394)) (fun _ hk => hk.2) (.slice Ao75 t395.length co75)) (fun _ hk => hk.2) (.slice Ao77 t398.length co77)) (fun _ h_ => h_.1))) (Kd.R_base ho0) hb); have n5_ := Aside0.mk (Kd.R_elder' (by (with_reducible repeat (first | apply Kd.R_alloc | apply Kd.R_drewN | apply Kd.R_drew)); exact (Kd.R_mono (Kd.R_far (p := ⟨gb402, 2, none⟩) (Kd.R_far (p := ⟨gb402, 1, none⟩) (Kd.R_far (p := ⟨gb402, 0, none⟩) (Kd.R_types HO385.out BK402.out (by decide)) (fun _ hk => hk.2) (.int .i64 t394)) (fun _ hk => hk.2) (.slice Ao75 t395.length co75)) (fun _ hk => hk.2) (.slice Ao77 t398.length co77)) (fun _ h_ => h_.1))) (Kd.R_base ho0) hb); have n6_ := Aside0.mk (Kd.R_elder' (by (with_reducible repeat (first | apply Kd.R_alloc | apply Kd.R_drewN | apply Kd.R_drew)); exact (Kd.R_mono (Kd.R_far (p := ⟨gb402, 2, none⟩) (Kd.R_far (p := ⟨gb402, 1, none⟩) (Kd.R_far (p := ⟨gb402, 0, none⟩) (Kd.R_types HO388.out BK402.out (by decide)) (fun _ hk => hk.2) (.int .i64 t394)) (fun _ hk => hk.2) (.slice Ao75 t395.length co75)) (fun _ hk => hk.2) (.slice Ao77 t398.length co77)) (fun _ h_ => h_.1))) (Kd.R_base ho0) hb); have n7_ := Aside0.mk (Kd.R_elder' (by (with_reducible repeat (first | apply Kd.R_alloc | apply Kd.R_drewN | apply Kd.R_drew)); exact (Kd.R_mono (Kd.R_far (p := ⟨gb402, 2, none⟩) (Kd.R_far (p := ⟨gb402, 1, none⟩) (Kd.R_far (p := ⟨gb402, 0, none⟩) (Kd.R_types HO393.out BK402.out (by decide)) (fun _ hk => hk.2) (.int .i64 t394)) (fun _ hk => hk.2) (.slice Ao75 t395.length co75)) (fun _ hk => hk.2) (.slice Ao77 t398.length co77)) (fun _ h_ => h_.1))) (Kd.R_base ho0) hb); have n8_ := Aside0.mk (Kd.R_elder' (by (with_reducible repeat (first | apply Kd.R_alloc | apply Kd.R_drewN | apply Kd.R_drew)); exact (Kd.R_mono (Kd.R_far (p := ⟨gb402, 2, none⟩) (Kd.R_far (p := ⟨gb402, 1, none⟩) (Kd.R_far (p := ⟨gb402, 0, none⟩) (Kd.R_types HO397.out BK402.out (by decide)) (fun _ hk => hk.2) (.int .i64 t394)) (fun _ hk => hk.2) (.slice Ao75 t395.length co75)) (fun _ hk => hk.2) (.slice Ao77 t398.length co77)) (fun _ h_ => h_.1))) (Kd.R_base ho0) hb); have n9_ := Aside0.mk (Kd.R_elder' (by (with_reducible repeat (first | apply Kd.R_alloc | apply Kd.R_drewN | apply Kd.R_drew)); exact (Kd.R_mono (Kd.R_far (p := ⟨gb402, 2, none⟩) (Kd.R_far (p := ⟨gb402, 1, none⟩) (Kd.R_far (p := ⟨gb402, 0, none⟩) (Kd.R_types HO400.out BK402.out (by decide)) (fun _ hk => hk.2) (.int .i64 t394)) (fun _ hk => hk.2) (.slice Ao75 t395.length co75)) (fun _ hk => hk.2) (.slice Ao77 t398.length co77)) (fun _ h_ => h_.1))) (Kd.R_base ho0) hb); have n10_ := Aside0.mk (Kd.R_lower (Kd.R_new' (Kd.R_new' (Kd.R_new' (Kd.R_new' (Kd.R_new' (Kd.R_new' (Kd.R_new' (Kd.R_new' (Kd.R_new' (Kd.R_new' ho0 (Kd.R_lt (by (with_reducible repeat (first | apply Kd.R_alloc | apply Kd.R_drewN | apply Kd.R_drew)); exact (Kd.R_mono (Kd.R_far (p := ⟨gb402, 2, none⟩) (Kd.R_far (p := ⟨gb402, 1, none⟩) (Kd.R_far (p := ⟨gb402, 0, none⟩) (Kd.R_types HO_7.out BK402.out (by decide)) (fun _ hk => hk.2) (.int .i64 t394)) (fun _ hk => hk.2) (.slice Ao75 t395.length co75)) (fun _ hk => hk.2) (.slice Ao77 t398.length co77)) (fun _ h_ => h_.1))))) (Kd.R_lt (by (with_reducible repeat (first | apply Kd.R_alloc | apply Kd.R_drewN | apply Kd.R_drew)); exact (Kd.R_mono (Kd.R_far (p := ⟨gb402, 2, none⟩) (Kd.R_far (p := ⟨gb402, 1, none⟩) (Kd.R_far (p := ⟨gb402, 0, none⟩) (Kd.R_types HO_369001.out BK402.out (by decide)) (fun _ hk => hk.2) (.int .i64 t394)) (fun _ hk => hk.2) (.slice Ao75 t395.length co75)) (fun _ hk => hk.2) (.slice Ao77 t398.length co77)) (fun _ h_ => h_.1))))) (Kd.R_lt (by (with_reducible repeat (first | apply Kd.R_alloc | apply Kd.R_drewN | apply Kd.R_drew)); exact (Kd.R_mono (Kd.R_far (p := ⟨gb402, 2, none⟩) (Kd.R_far (p := ⟨gb402, 1, none⟩) (Kd.R_far (p := ⟨gb402, 0, none⟩) (Kd.R_types HO_369002.out BK402.out (by decide)) (fun _ hk => hk.2) (.int .i64 t394)) (fun _ hk => hk.2) (.slice Ao75 t395.length co75)) (fun _ hk => hk.2) (.slice Ao77 t398.length co77)) (fun _ h_ => h_.1))))) (Kd.R_lt (by (with_reducible repeat (first | apply Kd.R_alloc | apply Kd.R_drewN | apply Kd.R_drew)); exact (Kd.R_mono (Kd.R_far (p := ⟨gb402, 2, none⟩) (Kd.R_far (p := ⟨gb402, 1, none⟩) (Kd.R_far (p := ⟨gb402, 0, none⟩) (Kd.R_types HO_378001.out BK402.out (by decide)) (fun _ hk => hk.2) (.int .i64 t394)) (fun _ hk => hk.2) (.slice Ao75 t395.length co75)) (fun _ hk => hk.2) (.slice Ao77 t398.length co77)) (fun _ h_ => h_.1))))) (Kd.R_lt (by (with_reducible repeat (first | apply Kd.R_alloc | apply Kd.R_drewN | apply Kd.R_drew)); exact (Kd.R_mono (Kd.R_far (p := ⟨gb402, 2, none⟩) (Kd.R_far (p := ⟨gb402, 1, none⟩) (Kd.R_far (p := ⟨gb402, 0, none⟩) (Kd.R_types HO_378002.out BK402.out (by decide)) (fun _ hk => hk.2) (.int .i64 t394)) (fun _ hk => hk.2) (.slice Ao75 t395.length co75)) (fun _ hk => hk.2) (.slice Ao77 t398.length co77)) (fun _ h_ => h_.1))))) (Kd.R_lt (by (with_reducible repeat (first | apply Kd.R_alloc | apply Kd.R_drewN | apply Kd.R_drew)); exact (Kd.R_mono (Kd.R_far (p := ⟨gb402, 2, none⟩) (Kd.R_far (p := ⟨gb402, 1, none⟩) (Kd.R_far (p := ⟨gb402, 0, none⟩) (Kd.R_types HO385.out BK402.out (by decide)) (fun _ hk => hk.2) (.int .i64 t394)) (fun _ hk => hk.2) (.slice Ao75 t395.length co75)) (fun _ hk => hk.2) (.slice Ao77 t398.length co77)) (fun _ h_ => h_.1))))) (Kd.R_lt (by (with_reducible repeat (first | apply Kd.R_alloc | apply Kd.R_drewN | apply Kd.R_drew)); exact (Kd.R_mono (Kd.R_far (p := ⟨gb402, 2, none⟩) (Kd.R_far (p := ⟨gb402, 1, none⟩) (Kd.R_far (p := ⟨gb402, 0, none⟩) (Kd.R_types HO388.out BK402.out (by decide)) (fun _ hk => hk.2) (.int .i64 t394)) (fun _ hk => hk.2) (.slice Ao75 t395.length co75)) (fun _ hk => hk.2) (.slice Ao77 t398.length co77)) (fun _ h_ => h_.1))))) (Kd.R_lt (by (with_reducible repeat (first | apply Kd.R_alloc | apply Kd.R_drewN | apply Kd.R_drew)); exact (Kd.R_mono (Kd.R_far (p := ⟨gb402, 2, none⟩) (Kd.R_far (p := ⟨gb402, 1, none⟩) (Kd.R_far (p := ⟨gb402, 0, none⟩) (Kd.R_types HO393.out BK402.out (by decide)) (fun _ hk => hk.2) (.int .i64 t394)) (fun _ hk => hk.2) (.slice Ao75 t395.length co75)) (fun _ hk => hk.2) (.slice Ao77 t398.length co77)) (fun _ h_ => h_.1))))) (Kd.R_lt (by (with_reducible repeat (first | apply Kd.R_alloc | apply Kd.R_drewN | apply Kd.R_drew)); exact (Kd.R_mono (Kd.R_far (p := ⟨gb402, 2, none⟩) (Kd.R_far (p := ⟨gb402, 1, none⟩) (Kd.R_far (p := ⟨gb402, 0, none⟩) (Kd.R_types HO397.out BK402.out (by decide)) (fun _ hk => hk.2) (.int .i64 t394)) (fun _ hk => hk.2) (.slice Ao75 t395.length co75)) (fun _ hk => hk.2) (.slice Ao77 t398.length co77)) (fun _ h_ => h_.1))))) (Kd.R_lt (by (with_reducible repeat (first | apply Kd.R_alloc | apply Kd.R_drewN | apply Kd.R_drew)); exact (Kd.R_mono (Kd.R_far (p := ⟨gb402, 2, none⟩) (Kd.R_far (p := ⟨gb402, 1, none⟩) (Kd.R_far (p := ⟨gb402, 0, none⟩) (Kd.R_types HO400.out BK402.out (by decide)) (fun _ hk => hk.2) (.int .i64 t394)) (fun _ hk => hk.2) (.slice Ao75 t395.length co75)) (fun _ hk => hk.2) (.slice Ao77 t398.length co77)) (fun _ h_ => h_.1))))) (below_size (pB5 HB.out GE353.out GE368.out GE377.out GE390.out GE402.out))); have n11_ := Aside0.mk (blk_below (g := gb353) (o := .cells #[.int .i64 a0_0, .slice A0_1 l0_1.length c0_1, .slice A0_2 l0_2.length c0_2] 24 (0, 0)) (by (with_reducible repeat (first | apply bN | apply bD | apply bA)); refine blk_far ?_ NB353_402.out _; (with_reducible repeat (first | apply bN | apply bD | apply bA)); refine blk_far ?_ NB353_402.out _; (with_reducible repeat (first | apply bN | apply bD | apply bA)); refine blk_far ?_ NB353_402.out _; (with_reducible repeat (first | apply bN | apply bD | apply bA)); exact BK353.out) hb); have n12_ := Aside0.mk (blk_below (g := gb368) (o := .cells #[.int .i64 t360, .slice Ao32 t361.length co32, .slice Ao33 t364.length co33] 24 (0, 0)) (by (with_reducible repeat (first | apply bN | apply bD | apply bA)); refine blk_far ?_ NB368_402.out _; (with_reducible repeat (first | apply bN | apply bD | apply bA)); refine blk_far ?_ NB368_402.out _; (with_reducible repeat (first | apply bN | apply bD | apply bA)); refine blk_far ?_ NB368_402.out _; (with_reducible repeat (first | apply bN | apply bD | apply bA)); exact BK368.out) hb); have n13_ := Aside0.mk (blk_below (g := gb377) (o := .cells #[.int .i64 t369, .slice Ao39 t370.length co39, .slice Ao40 t373.length co40] 24 (0, 0)) (by (with_reducible repeat (first | apply bN | apply bD | apply bA)); refine blk_far ?_ NB377_402.out _; (with_reducible repeat (first | apply bN | apply bD | apply bA)); refine blk_far ?_ NB377_402.out _; (with_reducible repeat (first | apply bN | apply bD | apply bA)); refine blk_far ?_ NB377_402.out _; (with_reducible repeat (first | apply bN | apply bD | apply bA)); exact BK377.out) hb); have n14_ := Aside0.mk (blk_below (g := gb390) (o := .cells #[.int .i64 t382, .slice Ao65 t383.length co65, .slice Ao66 t386.length co66] 24 (0, 0)) (by (with_reducible repeat (first | apply bN | apply bD | apply bA)); refine blk_far ?_ NB390_402.out _; (with_reducible repeat (first | apply bN | apply bD | apply bA)); refine blk_far ?_ NB390_402.out _; (with_reducible repeat (first | apply bN | apply bD | apply bA)); refine blk_far ?_ NB390_402.out _; (with_reducible repeat (first | apply bN | apply bD | apply bA)); exact BK390.out) hb); have n15_ := Aside0.mk (blk_below (g := gb402) (o := .cells #[.int .i64 t394, .slice Ao75 t395.length co75, .slice Ao77 t398.length co77] 24 (0, 0)) (by (with_reducible repeat (first | apply bN | apply bD | apply bA)); refine blk_put (cs := #[.int .i64 t394, .slice Ao75 t395.length co75, .slice none 0 0]) ?_ 2 _ rfl; (with_reducible repeat (first | apply bN | apply bD | apply bA)); refine blk_put (cs := #[.int .i64 t394, .slice none 0 0, .slice none 0 0]) ?_ 1 _ rfl; (with_reducible repeat (first | apply bN | apply bD | apply bA)); refine blk_put (cs := #[.int .i64 0, .slice none 0 0, .slice none 0 0]) ?_ 0 _ rfl; (with_reducible repeat (first | apply bN | apply bD | apply bA)); exact BK402.out) hb); have n16_ := Aside0.mk (below_step (pB5 HB.out GE353.out GE368.out GE377.out GE390.out GE402.out) hb); clear HO_7; clear HO_369001; clear HO_369002; clear HO_378001; clear HO_378002; clear HO385; clear HO388; clear HO393; clear HO397; clear HO400; clear BK353; clear BK368; clear BK377; clear BK390; clear BK402; clear HB; have HO_7 := n0_; have HO_369001 := n1_; have HO_369002 := n2_; have HO_378001 := n3_; have HO_378002 := n4_; have HO385 := n5_; have HO388 := n6_; have HO393 := n7_; have HO397 := n8_; have HO400 := n9_; have HO405 := n10_; have BK353 := n11_; have BK368 := n12_; have BK377 := n13_; have BK390 := n14_; have BK402 := n15_; have HB := n16_; clear n0_ n1_ n2_ n3_ n4_ n5_ n6_ n7_ n8_ n9_ n10_ n11_ n12_ n13_ n14_ n15_ n16_; (try clear hb); (try clear hb2); (try clear hk); (try clear hi); (try clear ho0); obtain ⟨Ao89, co89, eo89⟩ := Kd.R_slice HO405.out; subst eo89; obtain ⟨Ao90, co90, eo90⟩ := Kd.R_slice HO_7.out; subst eo90) | (go_at_call 20; (with_reducible refine (gradineplain_Ints.calls kj23 _ _ t403 _ _ t357 t406 _ ?side1 ?side2 ?side3 ?side4 A82.out).mono ?_); (case side1 => exact pC (Kd.R_reads' HO405.out).2.2); (case side2 => exact (Kd.R_reads' HO405.out).2.1); (case side3 => exact pC (Kd.R_reads' HO_7.out).2.2); (case side4 => exact (Kd.R_reads' HO_7.out).2.1); rintro e w' ⟨rfl, ⟨nd, rfl⟩⟩))
          go_meet
          case rel => exact ⟨_, (!t406), (pF), H', ⟨by have := HJ3.out; have := HJ23.out; first | omega | exact Nat.le_refl _⟩, ⟨by (with_reducible repeat (first | apply Kd.R_alloc | apply Kd.R_drewN | apply Kd.R_drew)); exact Kd.R_mono HO_7.out (fun _ hk => ⟨hk.1.2.2.2.2.2.1, ⟨hk.1.2.2.2.2.2.2.1, ⟨hk.1.2.2.2.2.2.2.2.1, ⟨hk.1.2.2.2.2.2.2.2.2, ⟨hk.1.1, ⟨hk.1.2.1, ⟨hk.1.2.2.2.1, hk.1.2.2.2.2.1⟩⟩⟩⟩⟩⟩⟩)⟩, ⟨by (with_reducible repeat (first | apply Kd.R_alloc | apply Kd.R_drewN | apply Kd.R_drew)); exact Kd.R_mono HO_369001.out (fun _ hk => ⟨hk.1.2.2.2.2.2.2.2.2, ⟨hk.1.2.2.2.2.2.1, ⟨hk.1.2.2.2.2.2.2.1, ⟨hk.1.2.2.2.2.2.2.2.1, ⟨hk.1.1, ⟨hk.1.2.1, ⟨hk.1.2.2.2.1, hk.1.2.2.2.2.1⟩⟩⟩⟩⟩⟩⟩)⟩, ⟨by (with_reducible repeat (first | apply Kd.R_alloc | apply Kd.R_drewN | apply Kd.R_drew)); exact Kd.R_mono HO_369002.out (fun _ hk => ⟨hk.1.2.2.2.2.2.2.2.2, ⟨hk.1.2.2.2.2.2.1, ⟨hk.1.2.2.2.2.2.2.1, ⟨hk.1.2.2.2.2.2.2.2.1, ⟨hk.1.1, ⟨hk.1.2.1, ⟨hk.1.2.2.2.1, hk.1.2.2.2.2.1⟩⟩⟩⟩⟩⟩⟩)⟩, ⟨by (with_reducible repeat (first | apply Kd.R_alloc | apply Kd.R_drewN | apply Kd.R_drew)); exact Kd.R_mono HO_378001.out (fun _ hk => ⟨hk.1.2.2.2.2.2.2.2.2, ⟨hk.1.2.2.2.2.2.1, ⟨hk.1.2.2.2.2.2.2.1, ⟨hk.1.2.2.2.2.2.2.2.1, ⟨hk.1.1, ⟨hk.1.2.1, ⟨hk.1.2.2.2.1, hk.1.2.2.2.2.1⟩⟩⟩⟩⟩⟩⟩)⟩, ⟨by (with_reducible repeat (first | apply Kd.R_alloc | apply Kd.R_drewN | apply Kd.R_drew)); exact Kd.R_mono HO_378002.out (fun _ hk => ⟨hk.1.2.2.2.2.2.2.2.2, ⟨hk.1.2.2.2.2.2.1, ⟨hk.1.2.2.2.2.2.2.1, ⟨hk.1.2.2.2.2.2.2.2.1, ⟨hk.1.1, ⟨hk.1.2.1, ⟨hk.1.2.2.2.1, hk.1.2.2.2.2.1⟩⟩⟩⟩⟩⟩⟩)⟩, ⟨by (with_reducible repeat (first | apply Kd.R_alloc | apply Kd.R_drewN | apply Kd.R_drew)); exact Kd.R_mono HO385.out (fun _ hk => ⟨hk.1.2.2.2.2.2.2.2.2, ⟨hk.1.2.2.2.2.1, ⟨hk.1.2.2.2.2.2.1, ⟨hk.1.2.2.2.2.2.2.1, ⟨hk.1.2.2.2.2.2.2.2.1, ⟨hk.1.1, ⟨hk.1.2.2.1, hk.1.2.2.2.1⟩⟩⟩⟩⟩⟩⟩)⟩, ⟨by (with_reducible repeat (first | apply Kd.R_alloc | apply Kd.R_drewN | apply Kd.R_drew)); exact Kd.R_mono HO388.out (fun _ hk => ⟨hk.1.2.2.2.2.2.2.2.2, ⟨hk.1.2.2.2.2.1, ⟨hk.1.2.2.2.2.2.1, ⟨hk.1.2.2.2.2.2.2.1, ⟨hk.1.2.2.2.2.2.2.2.1, ⟨hk.1.1, ⟨hk.1.2.2.1, hk.1.2.2.2.1⟩⟩⟩⟩⟩⟩⟩)⟩, ⟨by (with_reducible repeat (first | apply Kd.R_alloc | apply Kd.R_drewN | apply Kd.R_drew)); exact Kd.R_mono HO397.out (fun _ hk => ⟨hk.1.2.2.2.2.2.2.2.2, ⟨hk.1.2.2.2.2.1, ⟨hk.1.2.2.2.2.2.1, ⟨hk.1.2.2.2.2.2.2.1, ⟨hk.1.2.2.2.2.2.2.2.1, ⟨hk.1.1, ⟨hk.1.2.1, hk.1.2.2.2.1⟩⟩⟩⟩⟩⟩⟩)⟩, ⟨by (with_reducible repeat (first | apply Kd.R_alloc | apply Kd.R_drewN | apply Kd.R_drew)); exact Kd.R_mono HO400.out (fun _ hk => ⟨hk.1.2.2.2.2.2.2.2.2, ⟨hk.1.2.2.2.2.1, ⟨hk.1.2.2.2.2.2.1, ⟨hk.1.2.2.2.2.2.2.1, ⟨hk.1.2.2.2.2.2.2.2.1, ⟨hk.1.1, ⟨hk.1.2.1, hk.1.2.2.2.1⟩⟩⟩⟩⟩⟩⟩)⟩, ⟨by (with_reducible repeat (first | apply bN | apply bD | apply bA)); exact BK353.out⟩, ⟨by (with_reducible repeat (first | apply bN | apply bD | apply bA)); exact BK368.out⟩, ⟨by (with_reducible repeat (first | apply bN | apply bD | apply bA)); exact BK377.out⟩, ⟨by (with_reducible repeat (first | apply bN | apply bD | apply bA)); exact BK390.out⟩, ⟨by (with_reducible repeat (first | apply bN | apply bD | apply bA)); exact BK402.out⟩, ⟨pB5 HB.out GE353.out GE368.out GE377.out GE390.out GE402.out⟩⟩
         ·rw [if_neg c80] at H
          have c80b0 : (t401 == 0) = false := beq_eq_false_iff_ne.mpr c80
          have c80b1 : (t401 != 0) = true := bne_iff_ne.mpr c80
          have H' := Aside0.mk H
          clear H
          go_wp2
          go_meet
          case rel => exact ⟨_, (true), (pF), H', ⟨by have := HJ3.out; have := HJ23.out; first | omega | exact Nat.le_refl _⟩, ⟨by (with_reducible repeat (first | apply Kd.R_alloc | apply Kd.R_drewN | apply Kd.R_drew)); exact Kd.R_mono (Kd.R_far (p := ⟨gb402, 2, none⟩) (Kd.R_far (p := ⟨gb402, 1, none⟩) (Kd.R_far (p := ⟨gb402, 0, none⟩) (Kd.R_types HO_7.out BK402.out (by decide)) (fun _ hk => hk.2) (.int .i64 t394)) (fun _ hk => hk.2) (.slice Ao75 t395.length co75)) (fun _ hk => hk.2) (.slice Ao77 t398.length co77)) (fun _ hk => ⟨hk.1.2.2.2.2.2.1, ⟨hk.1.2.2.2.2.2.2.1, ⟨hk.1.2.2.2.2.2.2.2.1, ⟨hk.1.2.2.2.2.2.2.2.2, ⟨hk.1.1, ⟨hk.1.2.1, ⟨hk.1.2.2.2.1, hk.1.2.2.2.2.1⟩⟩⟩⟩⟩⟩⟩)⟩, ⟨by (with_reducible repeat (first | apply Kd.R_alloc | apply Kd.R_drewN | apply Kd.R_drew)); exact Kd.R_mono (Kd.R_far (p := ⟨gb402, 2, none⟩) (Kd.R_far (p := ⟨gb402, 1, none⟩) (Kd.R_far (p := ⟨gb402, 0, none⟩) (Kd.R_types HO_369001.out BK402.out (by decide)) (fun _ hk => hk.2) (.int .i64 t394)) (fun _ hk => hk.2) (.slice Ao75 t395.length co75)) (fun _ hk => hk.2) (.slice Ao77 t398.length co77)) (fun _ hk => ⟨hk.1.2.2.2.2.2.2.2.2, ⟨hk.1.2.2.2.2.2.1, ⟨hk.1.2.2.2.2.2.2.1, ⟨hk.1.2.2.2.2.2.2.2.1, ⟨hk.1.1, ⟨hk.1.2.1, ⟨hk.1.2.2.2.1, hk.1.2.2.2.2.1⟩⟩⟩⟩⟩⟩⟩)⟩, ⟨by (with_reducible repeat (first | apply Kd.R_alloc | apply Kd.R_drewN | apply Kd.R_drew)); exact Kd.R_mono (Kd.R_far (p := ⟨gb402, 2, none⟩) (Kd.R_far (p := ⟨gb402, 1, none⟩) (Kd.R_far (p := ⟨gb402, 0, none⟩) (Kd.R_types HO_369002.out BK402.out (by decide)) (fun _ hk => hk.2) (.int .i64 t394)) (fun _ hk => hk.2) (.slice Ao75 t395.length co75)) (fun _ hk => hk.2) (.slice Ao77 t398.length co77)) (fun _ hk => ⟨hk.1.2.2.2.2.2.2.2.2, ⟨hk.1.2.2.2.2.2.1, ⟨hk.1.2.2.2.2.2.2.1, ⟨hk.1.2.2.2.2.2.2.2.1, ⟨hk.1.1, ⟨hk.1.2.1, ⟨hk.1.2.2.2.1, hk.1.2.2.2.2.1⟩⟩⟩⟩⟩⟩⟩)⟩, ⟨by (with_reducible repeat (first | apply Kd.R_alloc | apply Kd.R_drewN | apply Kd.R_drew)); exact Kd.R_mono (Kd.R_far (p := ⟨gb402, 2, none⟩) (Kd.R_far (p := ⟨gb402, 1, none⟩) (Kd.R_far (p := ⟨gb402, 0, none⟩) (Kd.R_types HO_378001.out BK402.out (by decide)) (fun _ hk => hk.2) (.int .i64 t394)) (fun _ hk => hk.2) (.slice Ao75 t395.length co75)) (fun _ hk => hk.2) (.slice Ao77 t398.length co77)) (fun _ hk => ⟨hk.1.2.2.2.2.2.2.2.2, ⟨hk.1.2.2.2.2.2.1, ⟨hk.1.2.2.2.2.2.2.1, ⟨hk.1.2.2.2.2.2.2.2.1, ⟨hk.1.1, ⟨hk.1.2.1, ⟨hk.1.2.2.2.1, hk.1.2.2.2.2.1⟩⟩⟩⟩⟩⟩⟩)⟩, ⟨by (with_reducible repeat (first | apply Kd.R_alloc | apply Kd.R_drewN | apply Kd.R_drew)); exact Kd.R_mono (Kd.R_far (p := ⟨gb402, 2, none⟩) (Kd.R_far (p := ⟨gb402, 1, none⟩) (Kd.R_far (p := ⟨gb402, 0, none⟩) (Kd.R_types HO_378002.out BK402.out (by decide)) (fun _ hk => hk.2) (.int .i64 t394)) (fun _ hk => hk.2) (.slice Ao75 t395.length co75)) (fun _ hk => hk.2) (.slice Ao77 t398.length co77)) (fun _ hk => ⟨hk.1.2.2.2.2.2.2.2.2, ⟨hk.1.2.2.2.2.2.1, ⟨hk.1.2.2.2.2.2.2.1, ⟨hk.1.2.2.2.2.2.2.2.1, ⟨hk.1.1, ⟨hk.1.2.1, ⟨hk.1.2.2.2.1, hk.1.2.2.2.2.1⟩⟩⟩⟩⟩⟩⟩)⟩, ⟨by (with_reducible repeat (first | apply Kd.R_alloc | apply Kd.R_drewN | apply Kd.R_drew)); exact Kd.R_mono (Kd.R_far (p := ⟨gb402, 2, none⟩) (Kd.R_far (p := ⟨gb402, 1, none⟩) (Kd.R_far (p := ⟨gb402, 0, none⟩) (Kd.R_types HO385.out BK402.out (by decide)) (fun _ hk => hk.2) (.int .i64 t394)) (fun _ hk => hk.2) (.slice Ao75 t395.length co75)) (fun _ hk => hk.2) (.slice Ao77 t398.length co77)) (fun _ hk => ⟨hk.1.2.2.2.2.2.2.2.2, ⟨hk.1.2.2.2.2.1, ⟨hk.1.2.2.2.2.2.1, ⟨hk.1.2.2.2.2.2.2.1, ⟨hk.1.2.2.2.2.2.2.2.1, ⟨hk.1.1, ⟨hk.1.2.2.1, hk.1.2.2.2.1⟩⟩⟩⟩⟩⟩⟩)⟩, ⟨by (with_reducible repeat (first | apply Kd.R_alloc | apply Kd.R_drewN | apply Kd.R_drew)); exact Kd.R_mono (Kd.R_far (p := ⟨gb402, 2, none⟩) (Kd.R_far (p := ⟨gb402, 1, none⟩) (Kd.R_far (p := ⟨gb402, 0, none⟩) (Kd.R_types HO388.out BK402.out (by decide)) (fun _ hk => hk.2) (.int .i64 t394)) (fun _ hk => hk.2) (.slice Ao75 t395.length co75)) (fun _ hk => hk.2) (.slice Ao77 t398.length co77)) (fun _ hk => ⟨hk.1.2.2.2.2.2.2.2.2, ⟨hk.1.2.2.2.2.1, ⟨hk.1.2.2.2.2.2.1, ⟨hk.1.2.2.2.2.2.2.1, ⟨hk.1.2.2.2.2.2.2.2.1, ⟨hk.1.1, ⟨hk.1.2.2.1, hk.1.2.2.2.1⟩⟩⟩⟩⟩⟩⟩)⟩, ⟨by (with_reducible repeat (first | apply Kd.R_alloc | apply Kd.R_drewN | apply Kd.R_drew)); exact Kd.R_mono (Kd.R_far (p := ⟨gb402, 2, none⟩) (Kd.R_far (p := ⟨gb402, 1, none⟩) (Kd.R_far (p := ⟨gb402, 0, none⟩) (Kd.R_types HO397.out BK402.out (by decide)) (fun _ hk => hk.2) (.int .i64 t394)) (fun _ hk => hk.2) (.slice Ao75 t395.length co75)) (fun _ hk => hk.2) (.slice Ao77 t398.length co77)) (fun _ hk => ⟨hk.1.2.2.2.2.2.2.2.2, ⟨hk.1.2.2.2.2.1, ⟨hk.1.2.2.2.2.2.1, ⟨hk.1.2.2.2.2.2.2.1, ⟨hk.1.2.2.2.2.2.2.2.1, ⟨hk.1.1, ⟨hk.1.2.1, hk.1.2.2.2.1⟩⟩⟩⟩⟩⟩⟩)⟩, ⟨by (with_reducible repeat (first | apply Kd.R_alloc | apply Kd.R_drewN | apply Kd.R_drew)); exact Kd.R_mono (Kd.R_far (p := ⟨gb402, 2, none⟩) (Kd.R_far (p := ⟨gb402, 1, none⟩) (Kd.R_far (p := ⟨gb402, 0, none⟩) (Kd.R_types HO400.out BK402.out (by decide)) (fun _ hk => hk.2) (.int .i64 t394)) (fun _ hk => hk.2) (.slice Ao75 t395.length co75)) (fun _ hk => hk.2) (.slice Ao77 t398.length co77)) (fun _ hk => ⟨hk.1.2.2.2.2.2.2.2.2, ⟨hk.1.2.2.2.2.1, ⟨hk.1.2.2.2.2.2.1, ⟨hk.1.2.2.2.2.2.2.1, ⟨hk.1.2.2.2.2.2.2.2.1, ⟨hk.1.1, ⟨hk.1.2.1, hk.1.2.2.2.1⟩⟩⟩⟩⟩⟩⟩)⟩, ⟨by (with_reducible repeat (first | apply bN | apply bD | apply bA)); refine blk_far ?_ NB353_402.out _; (with_reducible repeat (first | apply bN | apply bD | apply bA)); refine blk_far ?_ NB353_402.out _; (with_reducible repeat (first | apply bN | apply bD | apply bA)); refine blk_far ?_ NB353_402.out _; (with_reducible repeat (first | apply bN | apply bD | apply bA)); exact BK353.out⟩, ⟨by (with_reducible repeat (first | apply bN | apply bD | apply bA)); refine blk_far ?_ NB368_402.out _; (with_reducible repeat (first | apply bN | apply bD | apply bA)); refine blk_far ?_ NB368_402.out _; (with_reducible repeat (first | apply bN | apply bD | apply bA)); refine blk_far ?_ NB368_402.out _; (with_reducible repeat (first | apply bN | apply bD | apply bA)); exact BK368.out⟩, ⟨by (with_reducible repeat (first | apply bN | apply bD | apply bA)); refine blk_far ?_ NB377_402.out _; (with_reducible repeat (first | apply bN | apply bD | apply bA)); refine blk_far ?_ NB377_402.out _; (with_reducible repeat (first | apply bN | apply bD | apply bA)); refine blk_far ?_ NB377_402.out _; (with_reducible repeat (first | apply bN | apply bD | apply bA)); exact BK377.out⟩, ⟨by (with_reducible repeat (first | apply bN | apply bD | apply bA)); refine blk_far ?_ NB390_402.out _; (with_reducible repeat (first | apply bN | apply bD | apply bA)); refine blk_far ?_ NB390_402.out _; (with_reducible repeat (first | apply bN | apply bD | apply bA)); refine blk_far ?_ NB390_402.out _; (with_reducible repeat (first | apply bN | apply bD | apply bA)); exact BK390.out⟩, ⟨by (with_reducible repeat (first | apply bN | apply bD | apply bA)); refine blk_put (cs := #[.int .i64 t394, .slice Ao75 t395.length co75, .slice none 0 0]) ?_ 2 _ rfl; (with_reducible repeat (first | apply bN | apply bD | apply bA)); refine blk_put (cs := #[.int .i64 t394, .slice none 0 0, .slice none 0 0]) ?_ 1 _ rfl; (with_reducible repeat (first | apply bN | apply bD | apply bA)); refine blk_put (cs := #[.int .i64 0, .slice none 0 0, .slice none 0 0]) ?_ 0 _ rfl; (with_reducible repeat (first | apply bN | apply bD | apply bA)); exact BK402.out⟩, ⟨pB5 HB.out GE353.out GE368.out GE377.out GE390.out GE402.out⟩⟩
        ·rw [if_neg c79] at H
         have c79b0 : (t389 == 0) = false := beq_eq_false_iff_ne.mpr c79
         have c79b1 : (t389 != 0) = true := bne_iff_ne.mpr c79
         (first | rw [c79b0] | (simp only [i64_w, i32_w]; rw [c79b0]) | skip)
         have H' := Aside0.mk H
         clear H
         go_wp2
         go_meet
         case rel => exact ⟨_, (false), (pF), H', ⟨by have := HJ3.out; have := HJ23.out; first | omega | exact Nat.le_refl _⟩, ⟨by (with_reducible repeat (first | apply Kd.R_alloc | apply Kd.R_drewN | apply Kd.R_drew)); exact Kd.R_mono (Kd.R_far (p := ⟨gb402, 2, none⟩) (Kd.R_far (p := ⟨gb402, 1, none⟩) (Kd.R_far (p := ⟨gb402, 0, none⟩) (Kd.R_types HO_7.out BK402.out (by decide)) (fun _ hk => hk.2) (.int .i64 t394)) (fun _ hk => hk.2) (.slice Ao75 t395.length co75)) (fun _ hk => hk.2) (.slice Ao77 t398.length co77)) (fun _ hk => ⟨hk.1.2.2.2.2.2.1, ⟨hk.1.2.2.2.2.2.2.1, ⟨hk.1.2.2.2.2.2.2.2.1, ⟨hk.1.2.2.2.2.2.2.2.2, ⟨hk.1.1, ⟨hk.1.2.1, ⟨hk.1.2.2.2.1, hk.1.2.2.2.2.1⟩⟩⟩⟩⟩⟩⟩)⟩, ⟨by (with_reducible repeat (first | apply Kd.R_alloc | apply Kd.R_drewN | apply Kd.R_drew)); exact Kd.R_mono (Kd.R_far (p := ⟨gb402, 2, none⟩) (Kd.R_far (p := ⟨gb402, 1, none⟩) (Kd.R_far (p := ⟨gb402, 0, none⟩) (Kd.R_types HO_369001.out BK402.out (by decide)) (fun _ hk => hk.2) (.int .i64 t394)) (fun _ hk => hk.2) (.slice Ao75 t395.length co75)) (fun _ hk => hk.2) (.slice Ao77 t398.length co77)) (fun _ hk => ⟨hk.1.2.2.2.2.2.2.2.2, ⟨hk.1.2.2.2.2.2.1, ⟨hk.1.2.2.2.2.2.2.1, ⟨hk.1.2.2.2.2.2.2.2.1, ⟨hk.1.1, ⟨hk.1.2.1, ⟨hk.1.2.2.2.1, hk.1.2.2.2.2.1⟩⟩⟩⟩⟩⟩⟩)⟩, ⟨by (with_reducible repeat (first | apply Kd.R_alloc | apply Kd.R_drewN | apply Kd.R_drew)); exact Kd.R_mono (Kd.R_far (p := ⟨gb402, 2, none⟩) (Kd.R_far (p := ⟨gb402, 1, none⟩) (Kd.R_far (p := ⟨gb402, 0, none⟩) (Kd.R_types HO_369002.out BK402.out (by decide)) (fun _ hk => hk.2) (.int .i64 t394)) (fun _ hk => hk.2) (.slice Ao75 t395.length co75)) (fun _ hk => hk.2) (.slice Ao77 t398.length co77)) (fun _ hk => ⟨hk.1.2.2.2.2.2.2.2.2, ⟨hk.1.2.2.2.2.2.1, ⟨hk.1.2.2.2.2.2.2.1, ⟨hk.1.2.2.2.2.2.2.2.1, ⟨hk.1.1, ⟨hk.1.2.1, ⟨hk.1.2.2.2.1, hk.1.2.2.2.2.1⟩⟩⟩⟩⟩⟩⟩)⟩, ⟨by (with_reducible repeat (first | apply Kd.R_alloc | apply Kd.R_drewN | apply Kd.R_drew)); exact Kd.R_mono (Kd.R_far (p := ⟨gb402, 2, none⟩) (Kd.R_far (p := ⟨gb402, 1, none⟩) (Kd.R_far (p := ⟨gb402, 0, none⟩) (Kd.R_types HO_378001.out BK402.out (by decide)) (fun _ hk => hk.2) (.int .i64 t394)) (fun _ hk => hk.2) (.slice Ao75 t395.length co75)) (fun _ hk => hk.2) (.slice Ao77 t398.length co77)) (fun _ hk => ⟨hk.1.2.2.2.2.2.2.2.2, ⟨hk.1.2.2.2.2.2.1, ⟨hk.1.2.2.2.2.2.2.1, ⟨hk.1.2.2.2.2.2.2.2.1, ⟨hk.1.1, ⟨hk.1.2.1, ⟨hk.1.2.2.2.1, hk.1.2.2.2.2.1⟩⟩⟩⟩⟩⟩⟩)⟩, ⟨by (with_reducible repeat (first | apply Kd.R_alloc | apply Kd.R_drewN | apply Kd.R_drew)); exact Kd.R_mono (Kd.R_far (p := ⟨gb402, 2, none⟩) (Kd.R_far (p := ⟨gb402, 1, none⟩) (Kd.R_far (p := ⟨gb402, 0, none⟩) (Kd.R_types HO_378002.out BK402.out (by decide)) (fun _ hk => hk.2) (.int .i64 t394)) (fun _ hk => hk.2) (.slice Ao75 t395.length co75)) (fun _ hk => hk.2) (.slice Ao77 t398.length co77)) (fun _ hk => ⟨hk.1.2.2.2.2.2.2.2.2, ⟨hk.1.2.2.2.2.2.1, ⟨hk.1.2.2.2.2.2.2.1, ⟨hk.1.2.2.2.2.2.2.2.1, ⟨hk.1.1, ⟨hk.1.2.1, ⟨hk.1.2.2.2.1, hk.1.2.2.2.2.1⟩⟩⟩⟩⟩⟩⟩)⟩, ⟨by (with_reducible repeat (first | apply Kd.R_alloc | apply Kd.R_drewN | apply Kd.R_drew)); exact Kd.R_mono (Kd.R_far (p := ⟨gb402, 2, none⟩) (Kd.R_far (p := ⟨gb402, 1, none⟩) (Kd.R_far (p := ⟨gb402, 0, none⟩) (Kd.R_types HO385.out BK402.out (by decide)) (fun _ hk => hk.2) (.int .i64 t394)) (fun _ hk => hk.2) (.slice Ao75 t395.length co75)) (fun _ hk => hk.2) (.slice Ao77 t398.length co77)) (fun _ hk => ⟨hk.1.2.2.2.2.2.2.2.2, ⟨hk.1.2.2.2.2.1, ⟨hk.1.2.2.2.2.2.1, ⟨hk.1.2.2.2.2.2.2.1, ⟨hk.1.2.2.2.2.2.2.2.1, ⟨hk.1.1, ⟨hk.1.2.2.1, hk.1.2.2.2.1⟩⟩⟩⟩⟩⟩⟩)⟩, ⟨by (with_reducible repeat (first | apply Kd.R_alloc | apply Kd.R_drewN | apply Kd.R_drew)); exact Kd.R_mono (Kd.R_far (p := ⟨gb402, 2, none⟩) (Kd.R_far (p := ⟨gb402, 1, none⟩) (Kd.R_far (p := ⟨gb402, 0, none⟩) (Kd.R_types HO388.out BK402.out (by decide)) (fun _ hk => hk.2) (.int .i64 t394)) (fun _ hk => hk.2) (.slice Ao75 t395.length co75)) (fun _ hk => hk.2) (.slice Ao77 t398.length co77)) (fun _ hk => ⟨hk.1.2.2.2.2.2.2.2.2, ⟨hk.1.2.2.2.2.1, ⟨hk.1.2.2.2.2.2.1, ⟨hk.1.2.2.2.2.2.2.1, ⟨hk.1.2.2.2.2.2.2.2.1, ⟨hk.1.1, ⟨hk.1.2.2.1, hk.1.2.2.2.1⟩⟩⟩⟩⟩⟩⟩)⟩, ⟨by (with_reducible repeat (first | apply Kd.R_alloc | apply Kd.R_drewN | apply Kd.R_drew)); exact Kd.R_mono (Kd.R_far (p := ⟨gb402, 2, none⟩) (Kd.R_far (p := ⟨gb402, 1, none⟩) (Kd.R_far (p := ⟨gb402, 0, none⟩) (Kd.R_types HO397.out BK402.out (by decide)) (fun _ hk => hk.2) (.int .i64 t394)) (fun _ hk => hk.2) (.slice Ao75 t395.length co75)) (fun _ hk => hk.2) (.slice Ao77 t398.length co77)) (fun _ hk => ⟨hk.1.2.2.2.2.2.2.2.2, ⟨hk.1.2.2.2.2.1, ⟨hk.1.2.2.2.2.2.1, ⟨hk.1.2.2.2.2.2.2.1, ⟨hk.1.2.2.2.2.2.2.2.1, ⟨hk.1.1, ⟨hk.1.2.1, hk.1.2.2.2.1⟩⟩⟩⟩⟩⟩⟩)⟩, ⟨by (with_reducible repeat (first | apply Kd.R_alloc | apply Kd.R_drewN | apply Kd.R_drew)); exact Kd.R_mono (Kd.R_far (p := ⟨gb402, 2, none⟩) (Kd.R_far (p := ⟨gb402, 1, none⟩) (Kd.R_far (p := ⟨gb402, 0, none⟩) (Kd.R_types HO400.out BK402.out (by decide)) (fun _ hk => hk.2) (.int .i64 t394)) (fun _ hk => hk.2) (.slice Ao75 t395.length co75)) (fun _ hk => hk.2) (.slice Ao77 t398.length co77)) (fun _ hk => ⟨hk.1.2.2.2.2.2.2.2.2, ⟨hk.1.2.2.2.2.1, ⟨hk.1.2.2.2.2.2.1, ⟨hk.1.2.2.2.2.2.2.1, ⟨hk.1.2.2.2.2.2.2.2.1, ⟨hk.1.1, ⟨hk.1.2.1, hk.1.2.2.2.1⟩⟩⟩⟩⟩⟩⟩)⟩, ⟨by (with_reducible repeat (first | apply bN | apply bD | apply bA)); refine blk_far ?_ NB353_402.out _; (with_reducible repeat (first | apply bN | apply bD | apply bA)); refine blk_far ?_ NB353_402.out _; (with_reducible repeat (first | apply bN | apply bD | apply bA)); refine blk_far ?_ NB353_402.out _; (with_reducible repeat (first | apply bN | apply bD | apply bA)); exact BK353.out⟩, ⟨by (with_reducible repeat (first | apply bN | apply bD | apply bA)); refine blk_far ?_ NB368_402.out _; (with_reducible repeat (first | apply bN | apply bD | apply bA)); refine blk_far ?_ NB368_402.out _; (with_reducible repeat (first | apply bN | apply bD | apply bA)); refine blk_far ?_ NB368_402.out _; (with_reducible repeat (first | apply bN | apply bD | apply bA)); exact BK368.out⟩, ⟨by (with_reducible repeat (first | apply bN | apply bD | apply bA)); refine blk_far ?_ NB377_402.out _; (with_reducible repeat (first | apply bN | apply bD | apply bA)); refine blk_far ?_ NB377_402.out _; (with_reducible repeat (first | apply bN | apply bD | apply bA)); refine blk_far ?_ NB377_402.out _; (with_reducible repeat (first | apply bN | apply bD | apply bA)); exact BK377.out⟩, ⟨by (with_reducible repeat (first | apply bN | apply bD | apply bA)); refine blk_far ?_ NB390_402.out _; (with_reducible repeat (first | apply bN | apply bD | apply bA)); refine blk_far ?_ NB390_402.out _; (with_reducible repeat (first | apply bN | apply bD | apply bA)); refine blk_far ?_ NB390_402.out _; (with_reducible repeat (first | apply bN | apply bD | apply bA)); exact BK390.out⟩, ⟨by (with_reducible repeat (first | apply bN | apply bD | apply bA)); refine blk_put (cs := #[.int .i64 t394, .slice Ao75 t395.length co75, .slice none 0 0]) ?_ 2 _ rfl; (with_reducible repeat (first | apply bN | apply bD | apply bA)); refine blk_put (cs := #[.int .i64 t394, .slice none 0 0, .slice none 0 0]) ?_ 1 _ rfl; (with_reducible repeat (first | apply bN | apply bD | apply bA)); refine blk_put (cs := #[.int .i64 0, .slice none 0 0, .slice none 0 0]) ?_ 0 _ rfl; (with_reducible repeat (first | apply bN | apply bD | apply bA)); exact BK402.out⟩, ⟨pB5 HB.out GE353.out GE368.out GE377.out GE390.out GE402.out⟩⟩
       case rest =>
        clear HC55
        try clear c1
        try clear c2
        try clear p2
        try clear c7
        try clear c8
        try clear c21
        try clear c22
        try clear c79
        try clear c79b0
        try clear c79b1
        try clear c80
        try clear c80b0
        try clear c80b1
        try clear c83
        try clear c84
        try clear c85
        try clear c86
        try clear hcz87_0
        try clear hcz87_1
        try clear hcz87_2
        try clear hfz87_0
        try clear hfz87_1
        try clear hfz87_2
        obtain ⟨kq, x83_54, rfl, HA, HJ54, HO_7, HO_369001, HO_369002, HO_378001, HO_378002, HO_391001, HO_391002, HO_403001, HO_403002, BK353, BK368, BK377, BK390, BK402, HB⟩ := hcut
        cases kq with
        | zero => exact absurd HA.out (by simp [gradinelaw22_ViewTwice.j2])
        | succ kj54 =>
         have H := HA.out
         clear HA
         simp only [gradinelaw22_ViewTwice.j2] at H
         by_cases c91 : x83_54 = true
         ·subst c91
          have H1 : (some false) = some true := by rw [if_pos rfl] at H; exact H
          clear H
          have H := H1
          clear H1
          exact absurd H (by simp)
         ·replace c91 := Bool.eq_false_iff.mpr c91
          subst c91
          have H1 : (gradinelaw22_ViewTwice.l0 kj54 t357 t367 t389 0 (t357.length : Int) 0 t360 t361 t364 t382 t383 t386) = some true := by rw [if_neg (show ¬ (false = true) by decide)] at H; exact H
          clear H
          have H := H1
          clear H1
          have H' := Aside0.mk H
          clear H
          obtain ⟨Ao92, co92, eo92⟩ := Kd.R_slice HO_7.out
          subst eo92
          go_wp2
          go_loopg [16, 86] kj54 (fun kq v16 v86 w' => ∃ (x16_4 : Int) (x86_4 : Int), v16 = .int .i64 x16_4 ∧ v86 = .int .i64 x86_4 ∧ Aside0 (gradinelaw22_ViewTwice.l0 kq t357 t367 t389 x16_4 (t357.length : Int) x86_4 t360 t361 t364 t382 t383 t386 = some true) ∧ Aside0 (kq ≤ kj54) ∧ Aside0 (Kd.R (Kd.int .i64) 3 w' w.heap.size (fun k_ => some k_ ≠ ((.slice Ao32 t361.length co32) : Value).ownBlock ∧ some k_ ≠ ((.slice Ao33 t364.length co33) : Value).ownBlock ∧ some k_ ≠ ((.slice Ao39 t370.length co39) : Value).ownBlock ∧ some k_ ≠ ((.slice Ao40 t373.length co40) : Value).ownBlock ∧ some k_ ≠ ((.slice Ao65 t383.length co65) : Value).ownBlock ∧ some k_ ≠ ((.slice Ao66 t386.length co66) : Value).ownBlock ∧ some k_ ≠ ((.slice Ao75 t395.length co75) : Value).ownBlock ∧ some k_ ≠ ((.slice Ao77 t398.length co77) : Value).ownBlock) (.slice Ao92 t357.length co92) t357) ∧ Aside0 (Kd.R (Kd.int .i64) 3 w' w.heap.size (fun k_ => some k_ ≠ ((.slice Ao92 t357.length co92) : Value).ownBlock ∧ some k_ ≠ ((.slice Ao33 t364.length co33) : Value).ownBlock ∧ some k_ ≠ ((.slice Ao39 t370.length co39) : Value).ownBlock ∧ some k_ ≠ ((.slice Ao40 t373.length co40) : Value).ownBlock ∧ some k_ ≠ ((.slice Ao65 t383.length co65) : Value).ownBlock ∧ some k_ ≠ ((.slice Ao66 t386.length co66) : Value).ownBlock ∧ some k_ ≠ ((.slice Ao75 t395.length co75) : Value).ownBlock ∧ some k_ ≠ ((.slice Ao77 t398.length co77) : Value).ownBlock) (.slice Ao32 t361.length co32) t361) ∧ Aside0 (Kd.R (Kd.int .i64) 3 w' w.heap.size (fun k_ => some k_ ≠ ((.slice Ao92 t357.length co92) : Value).ownBlock ∧ some k_ ≠ ((.slice Ao32 t361.length co32) : Value).ownBlock ∧ some k_ ≠ ((.slice Ao39 t370.length co39) : Value).ownBlock ∧ some k_ ≠ ((.slice Ao40 t373.length co40) : Value).ownBlock ∧ some k_ ≠ ((.slice Ao65 t383.length co65) : Value).ownBlock ∧ some k_ ≠ ((.slice Ao66 t386.length co66) : Value).ownBlock ∧ some k_ ≠ ((.slice Ao75 t395.length co75) : Value).ownBlock ∧ some k_ ≠ ((.slice Ao77 t398.length co77) : Value).ownBlock) (.slice Ao33 t364.length co33) t364) ∧ Aside0 (Kd.R (Kd.int .i64) 3 w' w.heap.size (fun k_ => some k_ ≠ ((.slice Ao92 t357.length co92) : Value).ownBlock ∧ some k_ ≠ ((.slice Ao32 t361.length co32) : Value).ownBlock ∧ some k_ ≠ ((.slice Ao33 t364.length co33) : Value).ownBlock ∧ some k_ ≠ ((.slice Ao40 t373.length co40) : Value).ownBlock ∧ some k_ ≠ ((.slice Ao65 t383.length co65) : Value).ownBlock ∧ some k_ ≠ ((.slice Ao66 t386.length co66) : Value).ownBlock ∧ some k_ ≠ ((.slice Ao75 t395.length co75) : Value).ownBlock ∧ some k_ ≠ ((.slice Ao77 t398.length co77) : Value).ownBlock) (.slice Ao39 t370.length co39) t370) ∧ Aside0 (Kd.R (Kd.int .i64) 3 w' w.heap.size (fun k_ => some k_ ≠ ((.slice Ao92 t357.length co92) : Value).ownBlock ∧ some k_ ≠ ((.slice Ao32 t361.length co32) : Value).ownBlock ∧ some k_ ≠ ((.slice Ao33 t364.length co33) : Value).ownBlock ∧ some k_ ≠ ((.slice Ao39 t370.length co39) : Value).ownBlock ∧ some k_ ≠ ((.slice Ao65 t383.length co65) : Value).ownBlock ∧ some k_ ≠ ((.slice Ao66 t386.length co66) : Value).ownBlock ∧ some k_ ≠ ((.slice Ao75 t395.length co75) : Value).ownBlock ∧ some k_ ≠ ((.slice Ao77 t398.length co77) : Value).ownBlock) (.slice Ao40 t373.length co40) t373) ∧ Aside0 (Kd.R (Kd.int .i64) 3 w' w.heap.size (fun k_ => some k_ ≠ ((.slice Ao92 t357.length co92) : Value).ownBlock ∧ some k_ ≠ ((.slice Ao32 t361.length co32) : Value).ownBlock ∧ some k_ ≠ ((.slice Ao33 t364.length co33) : Value).ownBlock ∧ some k_ ≠ ((.slice Ao39 t370.length co39) : Value).ownBlock ∧ some k_ ≠ ((.slice Ao40 t373.length co40) : Value).ownBlock ∧ some k_ ≠ ((.slice Ao66 t386.length co66) : Value).ownBlock ∧ some k_ ≠ ((.slice Ao75 t395.length co75) : Value).ownBlock ∧ some k_ ≠ ((.slice Ao77 t398.length co77) : Value).ownBlock) (.slice Ao65 t383.length co65) t383) ∧ Aside0 (Kd.R (Kd.int .i64) 3 w' w.heap.size (fun k_ => some k_ ≠ ((.slice Ao92 t357.length co92) : Value).ownBlock ∧ some k_ ≠ ((.slice Ao32 t361.length co32) : Value).ownBlock ∧ some k_ ≠ ((.slice Ao33 t364.length co33) : Value).ownBlock ∧ some k_ ≠ ((.slice Ao39 t370.length co39) : Value).ownBlock ∧ some k_ ≠ ((.slice Ao40 t373.length co40) : Value).ownBlock ∧ some k_ ≠ ((.slice Ao65 t383.length co65) : Value).ownBlock ∧ some k_ ≠ ((.slice Ao75 t395.length co75) : Value).ownBlock ∧ some k_ ≠ ((.slice Ao77 t398.length co77) : Value).ownBlock) (.slice Ao66 t386.length co66) t386) ∧ Aside0 (Kd.R (Kd.int .i64) 3 w' w.heap.size (fun k_ => some k_ ≠ ((.slice Ao92 t357.length co92) : Value).ownBlock ∧ some k_ ≠ ((.slice Ao32 t361.length co32) : Value).ownBlock ∧ some k_ ≠ ((.slice Ao33 t364.length co33) : Value).ownBlock ∧ some k_ ≠ ((.slice Ao39 t370.length co39) : Value).ownBlock ∧ some k_ ≠ ((.slice Ao40 t373.length co40) : Value).ownBlock ∧ some k_ ≠ ((.slice Ao65 t383.length co65) : Value).ownBlock ∧ some k_ ≠ ((.slice Ao66 t386.length co66) : Value).ownBlock ∧ some k_ ≠ ((.slice Ao77 t398.length co77) : Value).ownBlock) (.slice Ao75 t395.length co75) t395) ∧ Aside0 (Kd.R (Kd.int .i64) 3 w' w.heap.size (fun k_ => some k_ ≠ ((.slice Ao92 t357.length co92) : Value).ownBlock ∧ some k_ ≠ ((.slice Ao32 t361.length co32) : Value).ownBlock ∧ some k_ ≠ ((.slice Ao33 t364.length co33) : Value).ownBlock ∧ some k_ ≠ ((.slice Ao39 t370.length co39) : Value).ownBlock ∧ some k_ ≠ ((.slice Ao40 t373.length co40) : Value).ownBlock ∧ some k_ ≠ ((.slice Ao65 t383.length co65) : Value).ownBlock ∧ some k_ ≠ ((.slice Ao66 t386.length co66) : Value).ownBlock ∧ some k_ ≠ ((.slice Ao75 t395.length co75) : Value).ownBlock) (.slice Ao77 t398.length co77) t398) ∧ Aside0 (w'.heap[gb353]? = some (.cells #[.int .i64 a0_0, (.slice A0_1 l0_1.length c0_1), (.slice A0_2 l0_2.length c0_2)] 24 (0, 0))) ∧ Aside0 (w'.heap[gb368]? = some (.cells #[.int .i64 t360, (.slice Ao32 t361.length co32), (.slice Ao33 t364.length co33)] 24 (0, 0))) ∧ Aside0 (w'.heap[gb377]? = some (.cells #[.int .i64 t369, (.slice Ao39 t370.length co39), (.slice Ao40 t373.length co40)] 24 (0, 0))) ∧ Aside0 (w'.heap[gb390]? = some (.cells #[.int .i64 t382, (.slice Ao65 t383.length co65), (.slice Ao66 t386.length co66)] 24 (0, 0))) ∧ Aside0 (w'.heap[gb402]? = some (.cells #[.int .i64 t394, (.slice Ao75 t395.length co75), (.slice Ao77 t398.length co77)] 24 (0, 0))) ∧ Aside0 (Below w.heap.size w w'))
          case atStart => exact ⟨(0), (0), (pF), (pF), H', ⟨Nat.le_refl _⟩, ⟨pR HO_7.out⟩, ⟨pR HO_369001.out⟩, ⟨pR HO_369002.out⟩, ⟨pR HO_378001.out⟩, ⟨pR HO_378002.out⟩, ⟨pR HO_391001.out⟩, ⟨pR HO_391002.out⟩, ⟨pR HO_403001.out⟩, ⟨pR HO_403002.out⟩, ⟨by (with_reducible repeat (first | apply bN | apply bD | apply bA)); exact BK353.out⟩, ⟨by (with_reducible repeat (first | apply bN | apply bD | apply bA)); exact BK368.out⟩, ⟨by (with_reducible repeat (first | apply bN | apply bD | apply bA)); exact BK377.out⟩, ⟨by (with_reducible repeat (first | apply bN | apply bD | apply bA)); exact BK390.out⟩, ⟨by (with_reducible repeat (first | apply bN | apply bD | apply bA)); exact BK402.out⟩, ⟨pB5 HB.out GE353.out GE368.out GE377.out GE390.out GE402.out⟩⟩
          case round =>
           clear H'
           try clear c1
           try clear c2
           try clear p2
           try clear c7
           try clear c8
           try clear c9
           try clear c21
           try clear c22
           try clear c79
           try clear c79b0
           try clear c79b1
           try clear c80
           try clear c80b0
           try clear c80b1
           try clear c83
           try clear c84
           try clear c85
           try clear c86
           try clear c91
           try clear hcz87_0
           try clear hcz87_1
           try clear hcz87_2
           try clear hfz87_0
           try clear hfz87_1
           try clear hfz87_2
           try clear p2
           obtain ⟨x16_4, x86_4, rfl, rfl, HA, HK4, HO_7, HO_369001, HO_369002, HO_378001, HO_378002, HO_391001, HO_391002, HO_403001, HO_403002, BK353, BK368, BK377, BK390, BK402, HB⟩ := hrel
           cases gk with
           | zero => exact absurd HA.out (by simp [gradinelaw22_ViewTwice.l0])
           | succ k4 =>
            have H := HA.out
            clear HA
            simp only [gradinelaw22_ViewTwice.l0] at H
            by_cases c93 : x86_4 < (t357.length : Int)
            ·rw [if_pos c93] at H
             have c93b0 : decide (x86_4 < (t357.length : Int)) = true := decide_eq_true c93
             clear c93
             by_cases c94 : 0 ≤ x86_4
             ·rw [if_pos c94] at H
              have c94b0 : decide (0 ≤ x86_4) = true := decide_eq_true c94
              clear c94
              by_cases c95 : x86_4 < (t357.length : Int)
              ·rw [if_pos c95] at H
               have c95b0 : decide (x86_4 < (t357.length : Int)) = true := decide_eq_true c95
               clear c95
               obtain ⟨ji96, hji96⟩ : ∃ j_ : Int, (mx x16_4 (wrap64 ((rd t357 x86_4) + 1))) = j_ := ⟨_, rfl⟩
               replace H : (gradinelaw22_ViewTwice.l0 k4 t357 t367 t389 ji96 (t357.length : Int) (wrap64 (x86_4 + 1)) t360 t361 t364 t382 t383 t386) = some true := by first | (rw [hji96] at H; exact H) | (simp only [hji96] at H ⊢; exact H)
               have hji96_ : (if x16_4 < (wrap64 ((rd t357 x86_4) + 1)) then (wrap64 ((rd t357 x86_4) + 1)) else x16_4) = ji96 := hji96
               have H' := Aside0.mk H
               clear H
               have p407 : 0 ≤ (x86_4 : Int) := of_decide_eq_true pD
               have q407 : x86_4 < (t357.length : Int) := of_decide_eq_true pD
               obtain ⟨ad407, e407, hx407_0⟩ := Kd.at_int (Kd.R_reads' HO_7.out).2.2 x86_4 p407 q407
               cases e407
               replace p407 := eq_true p407
               replace q407 := eq_true q407
               go_wp2
               go_roundg k4
               case measure => have := HJ3.out; have := HJ23.out; have := HJ54.out; have := HK4.out; omega
               case rel => exact ⟨(ji96), (wrap64 (x86_4 + 1)), (by first | rfl | (simp; done) | (simp only [← hji96] <;> (first | rfl | simp)) | (simp [*]; done)), (pF), H', ⟨by have := HJ3.out; have := HJ23.out; have := HJ54.out; have := HK4.out; omega⟩, ⟨pR HO_7.out⟩, ⟨pR HO_369001.out⟩, ⟨pR HO_369002.out⟩, ⟨pR HO_378001.out⟩, ⟨pR HO_378002.out⟩, ⟨pR HO_391001.out⟩, ⟨pR HO_391002.out⟩, ⟨pR HO_403001.out⟩, ⟨pR HO_403002.out⟩, ⟨by (with_reducible repeat (first | apply bN | apply bD | apply bA)); exact BK353.out⟩, ⟨by (with_reducible repeat (first | apply bN | apply bD | apply bA)); exact BK368.out⟩, ⟨by (with_reducible repeat (first | apply bN | apply bD | apply bA)); exact BK377.out⟩, ⟨by (with_reducible repeat (first | apply bN | apply bD | apply bA)); exact BK390.out⟩, ⟨by (with_reducible repeat (first | apply bN | apply bD | apply bA)); exact BK402.out⟩, ⟨pB5 HB.out GE353.out GE368.out GE377.out GE390.out GE402.out⟩⟩
              ·rw [if_neg c95] at H
               exact absurd H (by simp)
             ·rw [if_neg c94] at H
              exact absurd H (by simp)
            ·rw [if_neg c93] at H
             have c93b0 : decide (x86_4 < (t357.length : Int)) = false := decide_eq_false c93
             clear c93
             by_cases c97 : t367 = 0
             ·rw [if_pos c97] at H
              have c97b0 : (t367 == 0) = true := beq_iff_eq.mpr c97
              have c97b1 : (t367 != 0) = false := bne_eq_false_iff_eq.mpr c97
              clear c97
              replace H := Option.bind_eq_some_iff.mp H
              obtain ⟨t408, A980, H⟩ := H
              replace H : (if t408 = true then (if t389 = 0 then ((view_Right.f k4 t382 t383 t386 x16_4).bind fun t409 => (if t409 = true then ((gradinelaw22_same.f).bind fun t410 => (some t410)) else (some false))) else ((gradinelaw22_same.f).bind fun t411 => (some t411))) else (some false)) = some true := H
              have A98 := Aside0.mk A980
              clear A980
              by_cases c99 : t408 = true
              ·subst c99
               have H1 : (if t389 = 0 then ((view_Right.f k4 t382 t383 t386 x16_4).bind fun t409 => (if t409 = true then ((gradinelaw22_same.f).bind fun t410 => (some t410)) else (some false))) else ((gradinelaw22_same.f).bind fun t411 => (some t411))) = some true := by rw [if_pos rfl] at H; exact H
               clear H
               have H := H1
               clear H1
               by_cases c100 : t389 = 0
               ·rw [if_pos c100] at H
                have c100b0 : (t389 == 0) = true := beq_iff_eq.mpr c100
                have c100b1 : (t389 != 0) = false := bne_eq_false_iff_eq.mpr c100
                clear c100
                replace H := Option.bind_eq_some_iff.mp H
                obtain ⟨t409, A1010, H⟩ := H
                replace H : (if t409 = true then ((gradinelaw22_same.f).bind fun t410 => (some t410)) else (some false)) = some true := H
                have A101 := Aside0.mk A1010
                clear A1010
                by_cases c102 : t409 = true
                ·subst c102
                 have H1 : ((gradinelaw22_same.f).bind fun t410 => (some t410)) = some true := by rw [if_pos rfl] at H; exact H
                 clear H
                 have H := H1
                 clear H1
                 replace H := Option.bind_eq_some_iff.mp H
                 obtain ⟨t410, A1030, H⟩ := H
                 replace H : (some t410) = some true := H
                 have A103 := Aside0.mk A1030
                 clear A1030
                 have hv_ := Aside0.mk (Option.some.inj H)
                 clear H
                 have hnb104 := NB368_353.out
                 have hnc104 := NB353_368.out
                 have hnb105 := NB368_377.out
                 have hnc105 := NB377_368.out
                 have hnb106 := NB368_390.out
                 have hnc106 := NB390_368.out
                 have hnb107 := NB368_402.out
                 have hnc107 := NB402_368.out
                 have hcz108_0 : wr.cell? ⟨gb368, 0, none⟩ = some (.int .i64 t360) := (blk_cell BK368.out 0).trans rfl
                 have hcz108_1 : wr.cell? ⟨gb368, 1, none⟩ = some (.slice Ao32 t361.length co32) := (blk_cell BK368.out 1).trans rfl
                 have hcz108_2 : wr.cell? ⟨gb368, 2, none⟩ = some (.slice Ao33 t364.length co33) := (blk_cell BK368.out 2).trans rfl
                 have hfz108_0 := blk_frozen BK368.out 0
                 have hfz108_1 := blk_frozen BK368.out 1
                 have hfz108_2 := blk_frozen BK368.out 2
                 go_wp2_with (first | (go_at_call 12; (with_reducible refine (view_Right.calls k4 t360 _ _ t361 _ _ t364 x16_4 true _ ?side1 ?side2 ?side3 ?side4 A98.out).mono ?_); (case side1 => exact pC (Kd.R_reads' HO_369001.out).2.2); (case side2 => exact (Kd.R_reads' HO_369001.out).2.1); (case side3 => exact pC (Kd.R_reads' HO_369002.out).2.2); (case side4 => exact (Kd.R_reads' HO_369002.out).2.1); rintro e w109 ⟨rfl, hb⟩; have n0_ := Aside0.mk (Kd.R_below (pR HO_7.out) hb); have n1_ := Aside0.mk (Kd.R_below (pR HO_369001.out) hb); have n2_ := Aside0.mk (Kd.R_below (pR HO_369002.out) hb); have n3_ := Aside0.mk (Kd.R_below (pR HO_378001.out) hb); have n4_ := Aside0.mk (Kd.R_below (pR HO_378002.out) hb); have n5_ := Aside0.mk (Kd.R_below (pR HO_391001.out) hb); have n6_ := Aside0.mk (Kd.R_below (pR HO_391002.out) hb); have n7_ := Aside0.mk (Kd.R_below (pR HO_403001.out) hb); have n8_ := Aside0.mk (Kd.R_below (pR HO_403002.out) hb); have n9_ := Aside0.mk (blk_below (g := gb353) (pK BK353.out) hb); have n10_ := Aside0.mk (blk_below (g := gb368) (pK BK368.out) hb); have n11_ := Aside0.mk (blk_below (g := gb377) (pK BK377.out) hb); have n12_ := Aside0.mk (blk_below (g := gb390) (pK BK390.out) hb); have n13_ := Aside0.mk (blk_below (g := gb402) (pK BK402.out) hb); have n14_ := Aside0.mk (below_step (pB5 HB.out GE353.out GE368.out GE377.out GE390.out GE402.out) hb); clear HO_7; clear HO_369001; clear HO_369002; clear HO_378001; clear HO_378002; clear HO_391001; clear HO_391002; clear HO_403001; clear HO_403002; clear BK353; clear BK368; clear BK377; clear BK390; clear BK402; clear HB; have HO_7 := n0_; have HO_369001 := n1_; have HO_369002 := n2_; have HO_378001 := n3_; have HO_378002 := n4_; have HO_391001 := n5_; have HO_391002 := n6_; have HO_403001 := n7_; have HO_403002 := n8_; have BK353 := n9_; have BK368 := n10_; have BK377 := n11_; have BK390 := n12_; have BK402 := n13_; have HB := n14_; clear n0_ n1_ n2_ n3_ n4_ n5_ n6_ n7_ n8_ n9_ n10_ n11_ n12_ n13_ n14_; (try clear hb); (try clear hb2); (try clear hk); (try clear hi); have hnb110 := NB390_353.out; have hnc110 := NB353_390.out; have hnb111 := NB390_377.out; have hnc111 := NB377_390.out; have hnb112 := NB390_402.out; have hnc112 := NB402_390.out; have hcz113_0 : w109.cell? ⟨gb390, 0, none⟩ = some (.int .i64 t382) := (blk_cell BK390.out 0).trans rfl; have hcz113_1 : w109.cell? ⟨gb390, 1, none⟩ = some (.slice Ao65 t383.length co65) := (blk_cell BK390.out 1).trans rfl; have hcz113_2 : w109.cell? ⟨gb390, 2, none⟩ = some (.slice Ao66 t386.length co66) := (blk_cell BK390.out 2).trans rfl; have hfz113_0 := blk_frozen BK390.out 0; have hfz113_1 := blk_frozen BK390.out 1; have hfz113_2 := blk_frozen BK390.out 2) | (go_at_call 12; (with_reducible refine (view_Right.calls k4 t382 _ _ t383 _ _ t386 x16_4 true _ ?side1 ?side2 ?side3 ?side4 A101.out).mono ?_); (case side1 => exact pC (Kd.R_reads' HO_391001.out).2.2); (case side2 => exact (Kd.R_reads' HO_391001.out).2.1); (case side3 => exact pC (Kd.R_reads' HO_391002.out).2.2); (case side4 => exact (Kd.R_reads' HO_391002.out).2.1); rintro e w114 ⟨rfl, hb⟩; have n0_ := Aside0.mk (Kd.R_below (pR HO_7.out) hb); have n1_ := Aside0.mk (Kd.R_below (pR HO_369001.out) hb); have n2_ := Aside0.mk (Kd.R_below (pR HO_369002.out) hb); have n3_ := Aside0.mk (Kd.R_below (pR HO_378001.out) hb); have n4_ := Aside0.mk (Kd.R_below (pR HO_378002.out) hb); have n5_ := Aside0.mk (Kd.R_below (pR HO_391001.out) hb); have n6_ := Aside0.mk (Kd.R_below (pR HO_391002.out) hb); have n7_ := Aside0.mk (Kd.R_below (pR HO_403001.out) hb); have n8_ := Aside0.mk (Kd.R_below (pR HO_403002.out) hb); have n9_ := Aside0.mk (blk_below (g := gb353) (pK BK353.out) hb); have n10_ := Aside0.mk (blk_below (g := gb368) (pK BK368.out) hb); have n11_ := Aside0.mk (blk_below (g := gb377) (pK BK377.out) hb); have n12_ := Aside0.mk (blk_below (g := gb390) (pK BK390.out) hb); have n13_ := Aside0.mk (blk_below (g := gb402) (pK BK402.out) hb); have n14_ := Aside0.mk (below_step (pB5 HB.out GE353.out GE368.out GE377.out GE390.out GE402.out) hb); clear HO_7; clear HO_369001; clear HO_369002; clear HO_378001; clear HO_378002; clear HO_391001; clear HO_391002; clear HO_403001; clear HO_403002; clear BK353; clear BK368; clear BK377; clear BK390; clear BK402; clear HB; have HO_7 := n0_; have HO_369001 := n1_; have HO_369002 := n2_; have HO_378001 := n3_; have HO_378002 := n4_; have HO_391001 := n5_; have HO_391002 := n6_; have HO_403001 := n7_; have HO_403002 := n8_; have BK353 := n9_; have BK368 := n10_; have BK377 := n11_; have BK390 := n12_; have BK402 := n13_; have HB := n14_; clear n0_ n1_ n2_ n3_ n4_ n5_ n6_ n7_ n8_ n9_ n10_ n11_ n12_ n13_ n14_; (try clear hb); (try clear hb2); (try clear hk); (try clear hi)) | (go_at_call 9; (with_reducible refine (gradinelaw22_same.calls  t410 _ A103.out).mono ?_); rintro e w115 ⟨rfl, hb⟩; have n0_ := Aside0.mk (Kd.R_below (pR HO_7.out) hb); have n1_ := Aside0.mk (Kd.R_below (pR HO_369001.out) hb); have n2_ := Aside0.mk (Kd.R_below (pR HO_369002.out) hb); have n3_ := Aside0.mk (Kd.R_below (pR HO_378001.out) hb); have n4_ := Aside0.mk (Kd.R_below (pR HO_378002.out) hb); have n5_ := Aside0.mk (Kd.R_below (pR HO_391001.out) hb); have n6_ := Aside0.mk (Kd.R_below (pR HO_391002.out) hb); have n7_ := Aside0.mk (Kd.R_below (pR HO_403001.out) hb); have n8_ := Aside0.mk (Kd.R_below (pR HO_403002.out) hb); have n9_ := Aside0.mk (blk_below (g := gb353) (pK BK353.out) hb); have n10_ := Aside0.mk (blk_below (g := gb368) (pK BK368.out) hb); have n11_ := Aside0.mk (blk_below (g := gb377) (pK BK377.out) hb); have n12_ := Aside0.mk (blk_below (g := gb390) (pK BK390.out) hb); have n13_ := Aside0.mk (blk_below (g := gb402) (pK BK402.out) hb); have n14_ := Aside0.mk (below_step (pB5 HB.out GE353.out GE368.out GE377.out GE390.out GE402.out) hb); clear HO_7; clear HO_369001; clear HO_369002; clear HO_378001; clear HO_378002; clear HO_391001; clear HO_391002; clear HO_403001; clear HO_403002; clear BK353; clear BK368; clear BK377; clear BK390; clear BK402; clear HB; have HO_7 := n0_; have HO_369001 := n1_; have HO_369002 := n2_; have HO_378001 := n3_; have HO_378002 := n4_; have HO_391001 := n5_; have HO_391002 := n6_; have HO_403001 := n7_; have HO_403002 := n8_; have BK353 := n9_; have BK368 := n10_; have BK377 := n11_; have BK390 := n12_; have BK402 := n13_; have HB := n14_; clear n0_ n1_ n2_ n3_ n4_ n5_ n6_ n7_ n8_ n9_ n10_ n11_ n12_ n13_ n14_; (try clear hb); (try clear hb2); (try clear hk); (try clear hi)))
                 go_ret
                 replace hv_ := hv_.out
                 exact ⟨pE, pB5 HB.out GE353.out GE368.out GE377.out GE390.out GE402.out⟩
                ·replace c102 := Bool.eq_false_iff.mpr c102
                 subst c102
                 have H1 : (some false) = some true := by rw [if_neg (show ¬ (false = true) by decide)] at H; exact H
                 clear H
                 have H := H1
                 clear H1
                 exact absurd H (by simp)
               ·rw [if_neg c100] at H
                have c100b0 : (t389 == 0) = false := beq_eq_false_iff_ne.mpr c100
                have c100b1 : (t389 != 0) = true := bne_iff_ne.mpr c100
                replace H := Option.bind_eq_some_iff.mp H
                obtain ⟨t411, A1160, H⟩ := H
                replace H : (some t411) = some true := H
                have A116 := Aside0.mk A1160
                clear A1160
                have hv_ := Aside0.mk (Option.some.inj H)
                clear H
                have hnb117 := NB368_353.out
                have hnc117 := NB353_368.out
                have hnb118 := NB368_377.out
                have hnc118 := NB377_368.out
                have hnb119 := NB368_390.out
                have hnc119 := NB390_368.out
                have hnb120 := NB368_402.out
                have hnc120 := NB402_368.out
                have hcz121_0 : wr.cell? ⟨gb368, 0, none⟩ = some (.int .i64 t360) := (blk_cell BK368.out 0).trans rfl
                have hcz121_1 : wr.cell? ⟨gb368, 1, none⟩ = some (.slice Ao32 t361.length co32) := (blk_cell BK368.out 1).trans rfl
                have hcz121_2 : wr.cell? ⟨gb368, 2, none⟩ = some (.slice Ao33 t364.length co33) := (blk_cell BK368.out 2).trans rfl
                have hfz121_0 := blk_frozen BK368.out 0
                have hfz121_1 := blk_frozen BK368.out 1
                have hfz121_2 := blk_frozen BK368.out 2
                go_wp2_with (first | (go_at_call 12; (with_reducible refine (view_Right.calls k4 t360 _ _ t361 _ _ t364 x16_4 true _ ?side1 ?side2 ?side3 ?side4 A98.out).mono ?_); (case side1 => exact pC (Kd.R_reads' HO_369001.out).2.2); (case side2 => exact (Kd.R_reads' HO_369001.out).2.1); (case side3 => exact pC (Kd.R_reads' HO_369002.out).2.2); (case side4 => exact (Kd.R_reads' HO_369002.out).2.1); rintro e w122 ⟨rfl, hb⟩; have n0_ := Aside0.mk (Kd.R_below (pR HO_7.out) hb); have n1_ := Aside0.mk (Kd.R_below (pR HO_369001.out) hb); have n2_ := Aside0.mk (Kd.R_below (pR HO_369002.out) hb); have n3_ := Aside0.mk (Kd.R_below (pR HO_378001.out) hb); have n4_ := Aside0.mk (Kd.R_below (pR HO_378002.out) hb); have n5_ := Aside0.mk (Kd.R_below (pR HO_391001.out) hb); have n6_ := Aside0.mk (Kd.R_below (pR HO_391002.out) hb); have n7_ := Aside0.mk (Kd.R_below (pR HO_403001.out) hb); have n8_ := Aside0.mk (Kd.R_below (pR HO_403002.out) hb); have n9_ := Aside0.mk (blk_below (g := gb353) (pK BK353.out) hb); have n10_ := Aside0.mk (blk_below (g := gb368) (pK BK368.out) hb); have n11_ := Aside0.mk (blk_below (g := gb377) (pK BK377.out) hb); have n12_ := Aside0.mk (blk_below (g := gb390) (pK BK390.out) hb); have n13_ := Aside0.mk (blk_below (g := gb402) (pK BK402.out) hb); have n14_ := Aside0.mk (below_step (pB5 HB.out GE353.out GE368.out GE377.out GE390.out GE402.out) hb); clear HO_7; clear HO_369001; clear HO_369002; clear HO_378001; clear HO_378002; clear HO_391001; clear HO_391002; clear HO_403001; clear HO_403002; clear BK353; clear BK368; clear BK377; clear BK390; clear BK402; clear HB; have HO_7 := n0_; have HO_369001 := n1_; have HO_369002 := n2_; have HO_378001 := n3_; have HO_378002 := n4_; have HO_391001 := n5_; have HO_391002 := n6_; have HO_403001 := n7_; have HO_403002 := n8_; have BK353 := n9_; have BK368 := n10_; have BK377 := n11_; have BK390 := n12_; have BK402 := n13_; have HB := n14_; clear n0_ n1_ n2_ n3_ n4_ n5_ n6_ n7_ n8_ n9_ n10_ n11_ n12_ n13_ n14_; (try clear hb); (try clear hb2); (try clear hk); (try clear hi)) | (go_at_call 9; (with_reducible refine (gradinelaw22_same.calls  t411 _ A116.out).mono ?_); rintro e w123 ⟨rfl, hb⟩; have n0_ := Aside0.mk (Kd.R_below (pR HO_7.out) hb); have n1_ := Aside0.mk (Kd.R_below (pR HO_369001.out) hb); have n2_ := Aside0.mk (Kd.R_below (pR HO_369002.out) hb); have n3_ := Aside0.mk (Kd.R_below (pR HO_378001.out) hb); have n4_ := Aside0.mk (Kd.R_below (pR HO_378002.out) hb); have n5_ := Aside0.mk (Kd.R_below (pR HO_391001.out) hb); have n6_ := Aside0.mk (Kd.R_below (pR HO_391002.out) hb); have n7_ := Aside0.mk (Kd.R_below (pR HO_403001.out) hb); have n8_ := Aside0.mk (Kd.R_below (pR HO_403002.out) hb); have n9_ := Aside0.mk (blk_below (g := gb353) (pK BK353.out) hb); have n10_ := Aside0.mk (blk_below (g := gb368) (pK BK368.out) hb); have n11_ := Aside0.mk (blk_below (g := gb377) (pK BK377.out) hb); have n12_ := Aside0.mk (blk_below (g := gb390) (pK BK390.out) hb); have n13_ := Aside0.mk (blk_below (g := gb402) (pK BK402.out) hb); have n14_ := Aside0.mk (below_step (pB5 HB.out GE353.out GE368.out GE377.out GE390.out GE402.out) hb); clear HO_7; clear HO_369001; clear HO_369002; clear HO_378001; clear HO_378002; clear HO_391001; clear HO_391002; clear HO_403001; clear HO_403002; clear BK353; clear BK368; clear BK377; clear BK390; clear BK402; clear HB; have HO_7 := n0_; have HO_369001 := n1_; have HO_369002 := n2_; have HO_378001 := n3_; have HO_378002 := n4_; have HO_391001 := n5_; have HO_391002 := n6_; have HO_403001 := n7_; have HO_403002 := n8_; have BK353 := n9_; have BK368 := n10_; have BK377 := n11_; have BK390 := n12_; have BK402 := n13_; have HB := n14_; clear n0_ n1_ n2_ n3_ n4_ n5_ n6_ n7_ n8_ n9_ n10_ n11_ n12_ n13_ n14_; (try clear hb); (try clear hb2); (try clear hk); (try clear hi)))
                go_ret
                replace hv_ := hv_.out
                exact ⟨pE, pB5 HB.out GE353.out GE368.out GE377.out GE390.out GE402.out⟩
              ·replace c99 := Bool.eq_false_iff.mpr c99
               subst c99
               have H1 : (some false) = some true := by rw [if_neg (show ¬ (false = true) by decide)] at H; exact H
               clear H
               have H := H1
               clear H1
               exact absurd H (by simp)
             ·rw [if_neg c97] at H
              have c97b0 : (t367 == 0) = false := beq_eq_false_iff_ne.mpr c97
              have c97b1 : (t367 != 0) = true := bne_iff_ne.mpr c97
              by_cases c124 : t389 = 0
              ·rw [if_pos c124] at H
               have c124b0 : (t389 == 0) = true := beq_iff_eq.mpr c124
               have c124b1 : (t389 != 0) = false := bne_eq_false_iff_eq.mpr c124
               clear c124
               replace H := Option.bind_eq_some_iff.mp H
               obtain ⟨t412, A1250, H⟩ := H
               replace H : (if t412 = true then ((gradinelaw22_same.f).bind fun t413 => (some t413)) else (some false)) = some true := H
               have A125 := Aside0.mk A1250
               clear A1250
               by_cases c126 : t412 = true
               ·subst c126
                have H1 : ((gradinelaw22_same.f).bind fun t413 => (some t413)) = some true := by rw [if_pos rfl] at H; exact H
                clear H
                have H := H1
                clear H1
                replace H := Option.bind_eq_some_iff.mp H
                obtain ⟨t413, A1270, H⟩ := H
                replace H : (some t413) = some true := H
                have A127 := Aside0.mk A1270
                clear A1270
                have hv_ := Aside0.mk (Option.some.inj H)
                clear H
                have hnb128 := NB390_353.out
                have hnc128 := NB353_390.out
                have hnb129 := NB390_368.out
                have hnc129 := NB368_390.out
                have hnb130 := NB390_377.out
                have hnc130 := NB377_390.out
                have hnb131 := NB390_402.out
                have hnc131 := NB402_390.out
                have hcz132_0 : wr.cell? ⟨gb390, 0, none⟩ = some (.int .i64 t382) := (blk_cell BK390.out 0).trans rfl
                have hcz132_1 : wr.cell? ⟨gb390, 1, none⟩ = some (.slice Ao65 t383.length co65) := (blk_cell BK390.out 1).trans rfl
                have hcz132_2 : wr.cell? ⟨gb390, 2, none⟩ = some (.slice Ao66 t386.length co66) := (blk_cell BK390.out 2).trans rfl
                have hfz132_0 := blk_frozen BK390.out 0
                have hfz132_1 := blk_frozen BK390.out 1
                have hfz132_2 := blk_frozen BK390.out 2
                go_wp2_with (first | (go_at_call 12; (with_reducible refine (view_Right.calls k4 t382 _ _ t383 _ _ t386 x16_4 true _ ?side1 ?side2 ?side3 ?side4 A125.out).mono ?_); (case side1 => exact pC (Kd.R_reads' HO_391001.out).2.2); (case side2 => exact (Kd.R_reads' HO_391001.out).2.1); (case side3 => exact pC (Kd.R_reads' HO_391002.out).2.2); (case side4 => exact (Kd.R_reads' HO_391002.out).2.1); rintro e w133 ⟨rfl, hb⟩; have n0_ := Aside0.mk (Kd.R_below (pR HO_7.out) hb); have n1_ := Aside0.mk (Kd.R_below (pR HO_369001.out) hb); have n2_ := Aside0.mk (Kd.R_below (pR HO_369002.out) hb); have n3_ := Aside0.mk (Kd.R_below (pR HO_378001.out) hb); have n4_ := Aside0.mk (Kd.R_below (pR HO_378002.out) hb); have n5_ := Aside0.mk (Kd.R_below (pR HO_391001.out) hb); have n6_ := Aside0.mk (Kd.R_below (pR HO_391002.out) hb); have n7_ := Aside0.mk (Kd.R_below (pR HO_403001.out) hb); have n8_ := Aside0.mk (Kd.R_below (pR HO_403002.out) hb); have n9_ := Aside0.mk (blk_below (g := gb353) (pK BK353.out) hb); have n10_ := Aside0.mk (blk_below (g := gb368) (pK BK368.out) hb); have n11_ := Aside0.mk (blk_below (g := gb377) (pK BK377.out) hb); have n12_ := Aside0.mk (blk_below (g := gb390) (pK BK390.out) hb); have n13_ := Aside0.mk (blk_below (g := gb402) (pK BK402.out) hb); have n14_ := Aside0.mk (below_step (pB5 HB.out GE353.out GE368.out GE377.out GE390.out GE402.out) hb); clear HO_7; clear HO_369001; clear HO_369002; clear HO_378001; clear HO_378002; clear HO_391001; clear HO_391002; clear HO_403001; clear HO_403002; clear BK353; clear BK368; clear BK377; clear BK390; clear BK402; clear HB; have HO_7 := n0_; have HO_369001 := n1_; have HO_369002 := n2_; have HO_378001 := n3_; have HO_378002 := n4_; have HO_391001 := n5_; have HO_391002 := n6_; have HO_403001 := n7_; have HO_403002 := n8_; have BK353 := n9_; have BK368 := n10_; have BK377 := n11_; have BK390 := n12_; have BK402 := n13_; have HB := n14_; clear n0_ n1_ n2_ n3_ n4_ n5_ n6_ n7_ n8_ n9_ n10_ n11_ n12_ n13_ n14_; (try clear hb); (try clear hb2); (try clear hk); (try clear hi)) | (go_at_call 9; (with_reducible refine (gradinelaw22_same.calls  t413 _ A127.out).mono ?_); rintro e w134 ⟨rfl, hb⟩; have n0_ := Aside0.mk (Kd.R_below (pR HO_7.out) hb); have n1_ := Aside0.mk (Kd.R_below (pR HO_369001.out) hb); have n2_ := Aside0.mk (Kd.R_below (pR HO_369002.out) hb); have n3_ := Aside0.mk (Kd.R_below (pR HO_378001.out) hb); have n4_ := Aside0.mk (Kd.R_below (pR HO_378002.out) hb); have n5_ := Aside0.mk (Kd.R_below (pR HO_391001.out) hb); have n6_ := Aside0.mk (Kd.R_below (pR HO_391002.out) hb); have n7_ := Aside0.mk (Kd.R_below (pR HO_403001.out) hb); have n8_ := Aside0.mk (Kd.R_below (pR HO_403002.out) hb); have n9_ := Aside0.mk (blk_below (g := gb353) (pK BK353.out) hb); have n10_ := Aside0.mk (blk_below (g := gb368) (pK BK368.out) hb); have n11_ := Aside0.mk (blk_below (g := gb377) (pK BK377.out) hb); have n12_ := Aside0.mk (blk_below (g := gb390) (pK BK390.out) hb); have n13_ := Aside0.mk (blk_below (g := gb402) (pK BK402.out) hb); have n14_ := Aside0.mk (below_step (pB5 HB.out GE353.out GE368.out GE377.out GE390.out GE402.out) hb); clear HO_7; clear HO_369001; clear HO_369002; clear HO_378001; clear HO_378002; clear HO_391001; clear HO_391002; clear HO_403001; clear HO_403002; clear BK353; clear BK368; clear BK377; clear BK390; clear BK402; clear HB; have HO_7 := n0_; have HO_369001 := n1_; have HO_369002 := n2_; have HO_378001 := n3_; have HO_378002 := n4_; have HO_391001 := n5_; have HO_391002 := n6_; have HO_403001 := n7_; have HO_403002 := n8_; have BK353 := n9_; have BK368 := n10_; have BK377 := n11_; have BK390 := n12_; have BK402 := n13_; have HB := n14_; clear n0_ n1_ n2_ n3_ n4_ n5_ n6_ n7_ n8_ n9_ n10_ n11_ n12_ n13_ n14_; (try clear hb); (try clear hb2); (try clear hk); (try clear hi)))
                go_ret
                replace hv_ := hv_.out
                exact ⟨pE, pB5 HB.out GE353.out GE368.out GE377.out GE390.out GE402.out⟩
               ·replace c126 := Bool.eq_false_iff.mpr c126
                subst c126
                have H1 : (some false) = some true := by rw [if_neg (show ¬ (false = true) by decide)] at H; exact H
                clear H
                have H := H1
                clear H1
                exact absurd H (by simp)
              ·rw [if_neg c124] at H
               have c124b0 : (t389 == 0) = false := beq_eq_false_iff_ne.mpr c124
               have c124b1 : (t389 != 0) = true := bne_iff_ne.mpr c124
               replace H := Option.bind_eq_some_iff.mp H
               obtain ⟨t414, A1350, H⟩ := H
               replace H : (some t414) = some true := H
               have A135 := Aside0.mk A1350
               clear A1350
               have hv_ := Aside0.mk (Option.some.inj H)
               clear H
               go_wp2_with (first | (go_at_call 9; (with_reducible refine (gradinelaw22_same.calls  t414 _ A135.out).mono ?_); rintro e w136 ⟨rfl, hb⟩; have n0_ := Aside0.mk (Kd.R_below (pR HO_7.out) hb); have n1_ := Aside0.mk (Kd.R_below (pR HO_369001.out) hb); have n2_ := Aside0.mk (Kd.R_below (pR HO_369002.out) hb); have n3_ := Aside0.mk (Kd.R_below (pR HO_378001.out) hb); have n4_ := Aside0.mk (Kd.R_below (pR HO_378002.out) hb); have n5_ := Aside0.mk (Kd.R_below (pR HO_391001.out) hb); have n6_ := Aside0.mk (Kd.R_below (pR HO_391002.out) hb); have n7_ := Aside0.mk (Kd.R_below (pR HO_403001.out) hb); have n8_ := Aside0.mk (Kd.R_below (pR HO_403002.out) hb); have n9_ := Aside0.mk (blk_below (g := gb353) (pK BK353.out) hb); have n10_ := Aside0.mk (blk_below (g := gb368) (pK BK368.out) hb); have n11_ := Aside0.mk (blk_below (g := gb377) (pK BK377.out) hb); have n12_ := Aside0.mk (blk_below (g := gb390) (pK BK390.out) hb); have n13_ := Aside0.mk (blk_below (g := gb402) (pK BK402.out) hb); have n14_ := Aside0.mk (below_step (pB5 HB.out GE353.out GE368.out GE377.out GE390.out GE402.out) hb); clear HO_7; clear HO_369001; clear HO_369002; clear HO_378001; clear HO_378002; clear HO_391001; clear HO_391002; clear HO_403001; clear HO_403002; clear BK353; clear BK368; clear BK377; clear BK390; clear BK402; clear HB; have HO_7 := n0_; have HO_369001 := n1_; have HO_369002 := n2_; have HO_378001 := n3_; have HO_378002 := n4_; have HO_391001 := n5_; have HO_391002 := n6_; have HO_403001 := n7_; have HO_403002 := n8_; have BK353 := n9_; have BK368 := n10_; have BK377 := n11_; have BK390 := n12_; have BK402 := n13_; have HB := n14_; clear n0_ n1_ n2_ n3_ n4_ n5_ n6_ n7_ n8_ n9_ n10_ n11_ n12_ n13_ n14_; (try clear hb); (try clear hb2); (try clear hk); (try clear hi)))
               go_ret
               replace hv_ := hv_.out
               exact ⟨pE, pB5 HB.out GE353.out GE368.out GE377.out GE390.out GE402.out⟩

end Go.Proofs.Ytjbpekblcecneaa.Q
