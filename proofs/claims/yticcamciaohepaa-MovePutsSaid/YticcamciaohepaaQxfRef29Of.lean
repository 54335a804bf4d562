-- By wip/gprint.py (this session's), out of the kit's print.py.
import Derived.Test.YticcamciaohepaaQx0
import Derived.Test.YticcamciaohepaaQxfRef19Check
import Derived.Test.YticcamciaohepaaQxfRef29Join
import Derived.Test.YticcamciaohepaaQxfRef29Put
import Derived.Test.YticcamciaohepaaQxfRef29Single
namespace Go.Proofs.Yticcamciaohepaa.Q
open Go.RowKit Go.Proofs.YticcamciaohepaaW.PrintWords Go.Proofs.YticcamciaohepaaW.PrintLast Go.Proofs.YticcamciaohepaaW.PrintMore
attribute [local go_sem] max2_int min2_int max_two min_two max_three min_three max_four min_four   -- for this text's walks alone
set_option linter.unusedVariables false
set_option linter.unusedSimpArgs false

/-! ### gradineref29_Of: function 7 -/
mutual
def gradineref29_Of.j0 : Nat → Int → List (List Int) → Bool → Int → Int → Int → Int → Int → Int → Int → Int → Bool → List Int → Option (List Int × List Int × List Int × Int)
 | 0, _, _, _, _, _, _, _, _, _, _, _, _, _ => none
 | k + 1, x0, x2, x19, zl, zm, zn, zo, zp, zq, zr, zs, zt, zu => if x19 = true then (some (([] : List Int), ([] : List Int), ([] : List Int), 14)) else (if x0 = 40 then (if (x2.length : Int) = 2 then (gradineref29_Of.j1 k x0 x2 false zl zm zn zo zp zq zr zs zt zu) else (gradineref29_Of.j1 k x0 x2 true zl zm zn zo zp zq zr zs zt zu)) else (gradineref29_Of.j1 k x0 x2 ((x2.length : Int) != 1) zl zm zn zo zp zq zr zs zt zu))
def gradineref29_Of.j1 : Nat → Int → List (List Int) → Bool → Int → Int → Int → Int → Int → Int → Int → Int → Bool → List Int → Option (List Int × List Int × List Int × Int)
 | 0, _, _, _, _, _, _, _, _, _, _, _, _, _ => none
 | k + 1, x0, x2, x36, zl, zm, zn, zo, zp, zq, zr, zs, zt, zu => if x36 = true then (some (([] : List Int), ([] : List Int), ([] : List Int), 1)) else (gradineref29_Of.l0 k x0 x2 (x2.length : Int) 0 zl zm zn zo zp zq zr zs zt zu)
def gradineref29_Of.l0 : Nat → Int → List (List Int) → Int → Int → Int → Int → Int → Int → Int → Int → Int → Int → Bool → List Int → Option (List Int × List Int × List Int × Int)
 | 0, _, _, _, _, _, _, _, _, _, _, _, _, _, _ => none
 | k + 1, x0, x2, x39, x40, zl, zm, zn, zo, zp, zq, zr, zs, zt, zu => if x40 < x39 then (if 0 ≤ x40 then (if x40 < (x2.length : Int) then ((gradineref19_Check.f k (rd_L1 x2 x40)).bind fun z5 => (if z5 = 0 then (gradineref29_Of.l0 k x0 x2 x39 (wrap64 (x40 + 1)) zl zm zn zo zp zq zr zs zt zu) else (some (([] : List Int), ([] : List Int), ([] : List Int), z5)))) else (none)) else (none)) else (if x0 = 39 then (if 0 < (x2.length : Int) then ((gradineref29_put.f k (rd_L1 x2 0) zl zm zn zo zp zq zr zs zt zu).bind fun bt826 => (some (bt826.1, bt826.2.1, bt826.2.2.1, bt826.2.2.2))) else (none)) else (if x0 = 40 then (if 0 < (x2.length : Int) then (if 1 < (x2.length : Int) then ((gradineref29_join.f k (rd_L1 x2 0) (rd_L1 x2 1) zl).bind fun bt838 => (some (bt838.1, bt838.2.1, bt838.2.2.1, bt838.2.2.2))) else (none)) else (none)) else (if 0 < (x2.length : Int) then ((gradineref29_single.f k x0 zl zm zn zo zp zq zr zs zt zu (rd_L1 x2 0)).bind fun bt849 => (if bt849.2.2 = 0 then (gradineref29_Of.l1 k (bt849.2.1.length : Int) 0 bt849.1 ([] : List Int) bt849.2.1) else (some (([] : List Int), ([] : List Int), ([] : List Int), bt849.2.2)))) else (none))))
def gradineref29_Of.l1 : Nat → Int → Int → List Int → List Int → List Int → Option (List Int × List Int × List Int × Int)
 | 0, _, _, _, _, _ => none
 | k + 1, x93, x94, zak, z6, zal => if x94 < x93 then (if z6.length < 17592186044416 then (gradineref29_Of.l1 k x93 (wrap64 (x94 + 1)) zak (z6 ++ [0]) zal) else (none)) else (some (zak, z6, zal, 0))
end
def gradineref29_Of.f (k : Nat) (a0 : Int) (a1_0 : Int) (a1_1 : Int) (a1_2 : Int) (a1_3 : Int) (a1_4 : Int) (a1_5 : Int) (a1_6 : Int) (a1_7 : Int) (a1_8 : Bool) (l1_9 : List Int) (l2 : List (List Int)) : Option (List Int × List Int × List Int × Int) := if a0 < 33 then (gradineref29_Of.j0 k a0 l2 true a1_0 a1_1 a1_2 a1_3 a1_4 a1_5 a1_6 a1_7 a1_8 l1_9) else (gradineref29_Of.j0 k a0 l2 (decide (a0 > 40)) a1_0 a1_1 a1_2 a1_3 a1_4 a1_5 a1_6 a1_7 a1_8 l1_9)
def gradineref29_Of.T13 : Bool × List (List Nat × List Nat) := (true, [([], []), ([0], [0]), ([1], [1]), ([], []), ([2, 3], [2, 3]), ([4], [4]), ([4], [4]), ([5, 4, 0, 1, 2, 3, 4, 5, 6], [5]), ([6, 7, 0, 1, 2, 3, 4, 5, 6, 7], [6])])
def gradineref29_Of.B13 : List Nat := [0, 1, 3, 0, 15, 31, 31, 127, 255]
theorem gradineref29_Of.tab13 : rtab .any (opsOf Try.f7 13) = gradineref29_Of.T13 := by kernel_rfl
theorem gradineref29_Of.bits13 : waitsOk gradineref29_Of.T13.2 gradineref29_Of.B13 = true := by kernel_rfl
def gradineref29_Of.T15 : Bool × List (List Nat × List Nat) := (true, [([], []), ([0], [0]), ([1], [1]), ([], []), ([3], [3]), ([4], [4]), ([], []), ([6], [6]), ([2, 5, 7], [2, 5, 7]), ([8], [8]), ([8], [8]), ([9, 8, 0, 1, 2, 3, 4, 5, 6, 7, 8, 9, 10], [9]), ([10, 11, 0, 1, 2, 3, 4, 5, 6, 7, 8, 9, 10, 11], [10])])
def gradineref29_Of.B15 : List Nat := [0, 1, 3, 0, 8, 24, 0, 64, 255, 511, 511, 2047, 4095]
theorem gradineref29_Of.tab15 : rtab .any (opsOf Try.f7 15) = gradineref29_Of.T15 := by kernel_rfl
theorem gradineref29_Of.bits15 : waitsOk gradineref29_Of.T15.2 gradineref29_Of.B15 = true := by kernel_rfl
def gradineref29_Of.T16 : Bool × List (List Nat × List Nat) := (true, [([], []), ([], []), ([], []), ([2], [2]), ([3], [3]), ([0, 1, 4], [0, 1, 4]), ([5], [5]), ([6], [6]), ([6], [6]), ([6], [6]), ([7, 5, 0, 1, 2, 3, 4, 5, 6, 7], [7]), ([8, 10, 0, 1, 2, 3, 4, 5, 6, 7, 8, 10], [8]), ([9, 11, 0, 1, 2, 3, 4, 5, 6, 7, 8, 9, 10, 11], [9])])
def gradineref29_Of.B16 : List Nat := [0, 0, 0, 4, 12, 31, 63, 127, 127, 127, 255, 1535, 4095]
theorem gradineref29_Of.tab16 : rtab .any (opsOf Try.f7 16) = gradineref29_Of.T16 := by kernel_rfl
theorem gradineref29_Of.bits16 : waitsOk gradineref29_Of.T16.2 gradineref29_Of.B16 = true := by kernel_rfl
set_option maxHeartbeats 8000000 in
set_option maxRecDepth 100000 in
theorem gradineref29_Of.calls (k : Nat) (a0 : Int) (a1_0 : Int) (a1_1 : Int) (a1_2 : Int) (a1_3 : Int) (a1_4 : Int) (a1_5 : Int) (a1_6 : Int) (a1_7 : Int) (a1_8 : Bool) (A1_9 : Option Addr) (c1_9 : Nat) (l1_9 : List Int) (A2 : Option Addr) (c2 : Nat) (l2 : List (List Int)) (r1 : List Int) (r2 : List Int) (r3 : List Int) (r4 : Int) (w : World) (hr1_9 : Kd.C (Kd.int .i64) w A1_9 l1_9.length l1_9) (hc1_9 : l1_9.length ≤ c1_9) (hr2 : Kd.C (Kd.slice 3 (Kd.int .i64)) w A2 l2.length l2) (hc2 : l2.length ≤ c2) (h : gradineref29_Of.f k a0 a1_0 a1_1 a1_2 a1_3 a1_4 a1_5 a1_6 a1_7 a1_8 l1_9 l2 = some (r1, r2, r3, r4)) :
  Calls Try.prog 7 #[.int .i64 a0, .agg #[.int .i64 a1_0, .int .i64 a1_1, .int .i64 a1_2, .int .i64 a1_3, .int .i64 a1_4, .int .i64 a1_5, .int .i64 a1_6, .int .i64 a1_7, .bool a1_8, .slice A1_9 l1_9.length c1_9], .slice A2 l2.length c2] w fun e w' => ∃ v0_ v1_ v2_ : Value, e = .returned (.tuple #[.agg #[v0_, v1_, v2_], .int .i64 r4]) ∧ Kd.R (Kd.int .i64) 3 w' w.heap.size (fun k_ => some k_ ≠ (v1_ : Value).ownBlock ∧ some k_ ≠ (v2_ : Value).ownBlock) v0_ r1 ∧ Kd.R (Kd.int .i64) 3 w' w.heap.size (fun k_ => some k_ ≠ (v0_ : Value).ownBlock ∧ some k_ ≠ (v2_ : Value).ownBlock) v1_ r2 ∧ Kd.R (Kd.int .i64) 3 w' w.heap.size (fun k_ => some k_ ≠ (v0_ : Value).ownBlock ∧ some k_ ≠ (v1_ : Value).ownBlock) v2_ r3 ∧ Below w.heap.size w w' := by
 have hu24 := Try.underlying24
 have hu29 := Try.underlying29
 have zaq := aM hr1_9
 have zar := aM hc1_9
 clear hr1_9 hc1_9
 have HR2 := aM hr2
 have HC2 := aM hc2
 clear hr2 hc2
 have HB := aM (Below.refl w.heap.size w)
 have H : (if a0 < 33 then (gradineref29_Of.j0 k a0 l2 true a1_0 a1_1 a1_2 a1_3 a1_4 a1_5 a1_6 a1_7 a1_8 l1_9) else (gradineref29_Of.j0 k a0 l2 (decide (a0 > 40)) a1_0 a1_1 a1_2 a1_3 a1_4 a1_5 a1_6 a1_7 a1_8 l1_9)) = some (r1, r2, r3, r4) := h
 clear h
 have HC4 := aM H
 clear H
 go_enter Try.func7, Try.ntmps7
 go_upto_region 1 with (first | ((with_reducible refine gate_dst (N := 4) rfl ?_); (try (refine gate_guard (by rfl) ?_; dsimp only)); refine box_event ?hg (N := 4) ?hd (cs := #[.int .i64 a1_0, .int .i64 a1_1, .int .i64 a1_2, .int .i64 a1_3, .int .i64 a1_4, .int .i64 a1_5, .int .i64 a1_6, .int .i64 a1_7, .bool a1_8, .slice A1_9 l1_9.length c1_9]) (t := 24) ?hr ?_; (case hd => rfl); (case hg => rfl); (case hr => first | (go_simp; done) | (go_simp; rfl)); intro ze hg w5 hbox hb; have zb := aM (hbox); have GW821 := gE (w := w) hg (qB HB); have zf := GW821; replace HB := bS (qB HB) hb; clear hb hbox hg) | ((with_reducible refine gate_dst (N := 6) rfl ?_); (try (refine gate_guard (by rfl) ?_; dsimp only)); refine box_event ?hg (N := 6) ?hd (cs := #[.slice none 0 0, .slice none 0 0, .slice none 0 0]) (t := 29) ?hr ?_; (case hd => rfl); (case hg => rfl); (case hr => first | (go_simp; done) | (go_simp; rfl)); intro zc hg w6 hbox hb; have zd := aM (hbox); have zg := gE (w := w) hg (qB1 HB zf); have zh := zg; replace HB := bS (qB1 HB zf) hb; have za := nL hg zb; have zi := nG hg zb; replace zb := bK zb hb; clear hb hbox hg))
 (try simp only [Act.put, sP])
 go_cut [19] (fun v19 wc => ∃ (kq : Nat) (x19_3 : Bool), v19 = .bool x19_3 ∧ Aside0 (gradineref29_Of.j0 kq a0 l2 x19_3 a1_0 a1_1 a1_2 a1_3 a1_4 a1_5 a1_6 a1_7 a1_8 l1_9 = some (r1, r2, r3, r4)) ∧ Aside0 (kq ≤ k) ∧ Aside0 (wc.heap[ze]? = some (.cells #[.int .i64 a1_0, .int .i64 a1_1, .int .i64 a1_2, .int .i64 a1_3, .int .i64 a1_4, .int .i64 a1_5, .int .i64 a1_6, .int .i64 a1_7, .bool a1_8, (.slice A1_9 l1_9.length c1_9)] 24 (0, 0))) ∧ Aside0 (wc.heap[zc]? = some (.cells #[(.slice none 0 0), (.slice none 0 0), (.slice none 0 0)] 29 (0, 0))) ∧ Aside0 (Below w.heap.size w wc))
 case first =>
  have H := HC4.out
  clear HC4
  by_cases c7 : a0 < 33
  ·rw [if_pos c7] at H
   have zas : decide (a0 < 33) = true := decide_eq_true c7
   clear c7
   (first | rw [zas] | (simp only [i64_w, i32_w]; rw [zas]) | skip)
   have H' := aM H
   clear H
   go_wp2
   go_meet
   case rel => exact ⟨_, (true), (pF), H', ⟨by first | omega | exact Nat.le_refl _⟩, ⟨pK zb.out⟩, ⟨pK zd.out⟩, ⟨qB2 HB zf zh⟩⟩
  rw [if_neg c7] at H
  have zas : decide (a0 < 33) = false := decide_eq_false c7
  clear c7
  (first | rw [zas] | (simp only [i64_w, i32_w]; rw [zas]) | skip)
  have H' := aM H
  clear H
  go_wp2
  go_meet
  case rel => exact ⟨_, (decide (a0 > 40)), (pF), H', ⟨by first | omega | exact Nat.le_refl _⟩, ⟨pK zb.out⟩, ⟨pK zd.out⟩, ⟨qB2 HB zf zh⟩⟩
 case rest =>
  clear HC4
  try clear c2
  obtain ⟨kq, x19_3, rfl, HA, HJ3, zb, zd, HB⟩ := hcut
  cases kq with
  | zero => exact absurd HA.out (by simp [gradineref29_Of.j0])
  | succ kj3 =>
   have H := HA.out
   clear HA
   simp only [gradineref29_Of.j0] at H
   by_cases c8 : x19_3 = true
   ·subst c8
    rw [if_pos rfl] at H
    simp only [Option.some.injEq, Prod.mk.injEq] at H
    obtain ⟨rfl, rfl, rfl, rfl⟩ := H
    have hnb9 := zi.out
    have hnc9 := za.out
    obtain ⟨hcz10_0, hcz10_1, hcz10_2, hfz10_0, hfz10_1, hfz10_2⟩ := blk3 zd.out
    go_wp2
    refine bodyPost_ret (results_ct rfl _ _ zc 29 #[.slice none 0 0, .slice none 0 0, .slice none 0 0] (0, 0) _ rfl (by exact P3 zd) Try.underlying29 rfl (by kernel_rfl)) rfl ?_
    exact ⟨_, _, _, pE, pN, pN, pN, qB2 HB zf zh⟩
   replace c8 := Bool.eq_false_iff.mpr c8
   subst c8
   rw [if_neg (show ¬ (false = true) by decide)] at H
   have HC11 := aM H
   clear H
   go_upto_region 3 with (fail)
   go_cut [36] (fun v36 wc => ∃ (kq : Nat) (x36_10 : Bool), v36 = .bool x36_10 ∧ Aside0 (gradineref29_Of.j1 kq a0 l2 x36_10 a1_0 a1_1 a1_2 a1_3 a1_4 a1_5 a1_6 a1_7 a1_8 l1_9 = some (r1, r2, r3, r4)) ∧ Aside0 (kq ≤ kj3) ∧ Aside0 (wc.heap[ze]? = some (.cells #[.int .i64 a1_0, .int .i64 a1_1, .int .i64 a1_2, .int .i64 a1_3, .int .i64 a1_4, .int .i64 a1_5, .int .i64 a1_6, .int .i64 a1_7, .bool a1_8, (.slice A1_9 l1_9.length c1_9)] 24 (0, 0))) ∧ Aside0 (wc.heap[zc]? = some (.cells #[(.slice none 0 0), (.slice none 0 0), (.slice none 0 0)] 29 (0, 0))) ∧ Aside0 (Below w.heap.size w wc))
   case first =>
    have H := HC11.out
    clear HC11
    by_cases c12 : a0 = 40
    rotate_left
    ·rw [if_neg c12] at H
     have zaa : (a0 == 40) = false := beq_eq_false_iff_ne.mpr c12
     have c12b1 : (a0 != 40) = true := bne_iff_ne.mpr c12
     (first | rw [zaa] | (simp only [i64_w, i32_w]; rw [zaa]) | skip)
     have H' := aM H
     clear H
     go_wp2
     go_meet
     case rel => exact ⟨_, (((l2.length : Int) != 1)), (pF), H', ⟨by have := HJ3.out; first | omega | exact Nat.le_refl _⟩, ⟨pK zb.out⟩, ⟨pK zd.out⟩, ⟨qB2 HB zf zh⟩⟩
    rw [if_pos c12] at H
    have zaa : (a0 == 40) = true := beq_iff_eq.mpr c12
    have c12b1 : (a0 != 40) = false := bne_eq_false_iff_eq.mpr c12
    clear c12
    (first | rw [zaa] | (simp only [i64_w, i32_w]; rw [zaa]) | skip)
    by_cases c13 : (l2.length : Int) = 2
    rotate_left
    ·rw [if_neg c13] at H
     have c13b0 : ((l2.length : Int) == 2) = false := beq_eq_false_iff_ne.mpr c13
     have c13b1 : ((l2.length : Int) != 2) = true := bne_iff_ne.mpr c13
     have H' := aM H
     clear H
     go_wp2
     go_meet
     case rel => exact ⟨_, (true), (pF), H', ⟨by have := HJ3.out; first | omega | exact Nat.le_refl _⟩, ⟨pK zb.out⟩, ⟨pK zd.out⟩, ⟨qB2 HB zf zh⟩⟩
    rw [if_pos c13] at H
    have c13b0 : ((l2.length : Int) == 2) = true := beq_iff_eq.mpr c13
    have c13b1 : ((l2.length : Int) != 2) = false := bne_eq_false_iff_eq.mpr c13
    clear c13
    have H' := aM H
    clear H
    go_wp2
    go_meet
    case rel => exact ⟨_, (false), (pF), H', ⟨by have := HJ3.out; first | omega | exact Nat.le_refl _⟩, ⟨pK zb.out⟩, ⟨pK zd.out⟩, ⟨qB2 HB zf zh⟩⟩
   case rest =>
    clear HC11
    try clear c8
    obtain ⟨kq, x36_10, rfl, HA, zau, zb, zd, HB⟩ := hcut
    cases kq with
    | zero => exact absurd HA.out (by simp [gradineref29_Of.j1])
    | succ zbb =>
     have H := HA.out
     clear HA
     simp only [gradineref29_Of.j1] at H
     by_cases c14 : x36_10 = true
     ·subst c14
      rw [if_pos rfl] at H
      simp only [Option.some.injEq, Prod.mk.injEq] at H
      obtain ⟨rfl, rfl, rfl, rfl⟩ := H
      have hnb15 := zi.out
      have hnc15 := za.out
      obtain ⟨hcz16_0, hcz16_1, hcz16_2, hfz16_0, hfz16_1, hfz16_2⟩ := blk3 zd.out
      go_wp2
      refine bodyPost_ret (results_ct rfl _ _ zc 29 #[.slice none 0 0, .slice none 0 0, .slice none 0 0] (0, 0) _ rfl (by exact P3 zd) Try.underlying29 rfl (by kernel_rfl)) rfl ?_
      exact ⟨_, _, _, pE, pN, pN, pN, qB2 HB zf zh⟩
     replace c14 := Bool.eq_false_iff.mpr c14
     subst c14
     rw [if_neg (show ¬ (false = true) by decide)] at H
     have H' := aM H
     clear H
     go_wp2
     go_loopg [40] zbb (fun kq v40 w' => ∃ (x40_3 : Int), v40 = .int .i64 x40_3 ∧ Aside0 (gradineref29_Of.l0 kq a0 l2 (l2.length : Int) x40_3 a1_0 a1_1 a1_2 a1_3 a1_4 a1_5 a1_6 a1_7 a1_8 l1_9 = some (r1, r2, r3, r4)) ∧ Aside0 (kq ≤ zbb) ∧ Aside0 (w'.heap[ze]? = some (.cells #[.int .i64 a1_0, .int .i64 a1_1, .int .i64 a1_2, .int .i64 a1_3, .int .i64 a1_4, .int .i64 a1_5, .int .i64 a1_6, .int .i64 a1_7, .bool a1_8, (.slice A1_9 l1_9.length c1_9)] 24 (0, 0))) ∧ Aside0 (w'.heap[zc]? = some (.cells #[(.slice none 0 0), (.slice none 0 0), (.slice none 0 0)] 29 (0, 0))) ∧ Aside0 (Below w.heap.size w w'))
     case atStart => exact ⟨(0), (pF), H', ⟨Nat.le_refl _⟩, ⟨pK zb.out⟩, ⟨pK zd.out⟩, ⟨qB2 HB zf zh⟩⟩
     case round =>
      clear H'
      try clear c14
      obtain ⟨x40_3, rfl, HA, HK3, zb, zd, HB⟩ := hrel
      cases gk with
      | zero => exact absurd HA.out (by simp [gradineref29_Of.l0])
      | succ k3 =>
       have H := HA.out
       clear HA
       simp only [gradineref29_Of.l0] at H
       by_cases c17 : x40_3 < (l2.length : Int)
       ·rw [if_pos c17] at H
        have zax : decide (x40_3 < (l2.length : Int)) = true := decide_eq_true c17
        clear c17
        by_cases c18 : 0 ≤ x40_3
        rotate_left
        ·rw [if_neg c18] at H
         exact absurd H (by simp)
        rw [if_pos c18] at H
        have c18b0 : decide (0 ≤ x40_3) = true := decide_eq_true c18
        clear c18
        by_cases c19 : x40_3 < (l2.length : Int)
        rotate_left
        ·rw [if_neg c19] at H
         exact absurd H (by simp)
        rw [if_pos c19] at H
        have c19b0 : decide (x40_3 < (l2.length : Int)) = true := decide_eq_true c19
        clear c19
        replace H := Option.bind_eq_some_iff.mp H
        obtain ⟨z5, zbc, H⟩ := H
        try dsimp only at H
        have A20 := aM zbc
        clear zbc
        by_cases c21 : z5 = 0
        rotate_left
        ·rw [if_neg c21] at H
         have c21b0 : (z5 == 0) = false := beq_eq_false_iff_ne.mpr c21
         have c21b1 : (z5 != 0) = true := bne_iff_ne.mpr c21
         simp only [Option.some.injEq, Prod.mk.injEq] at H
         obtain ⟨rfl, rfl, rfl, rfl⟩ := H
         have p823 : 0 ≤ (x40_3 : Int) := of_decide_eq_true pD
         have q823 : x40_3 < (l2.length : Int) := of_decide_eq_true pD
         obtain ⟨ad823, A823_0, c823_0, e823, hx823_0, hl823_0, hi823_0⟩ := at_L1 HR2.out x40_3 p823 q823
         cases e823
         replace hx823_0 := (HB.out.cell (World.block_lt_of_cell? w _ hx823_0)).trans hx823_0
         have z7 := aM hi823_0
         have z8 := aM hl823_0
         clear hi823_0 hl823_0
         replace p823 := eq_true p823
         replace q823 := eq_true q823
         go_wp2_with (first | ((with_reducible refine gate_callee (f := 14) rfl ?_); refine goesL_ (some 47) rfl rfl Try.func14 (by kernel_rfl) rfl #[.slice A823_0 (rd_L1 l2 x40_3).length c823_0] rfl pA ?_; (with_reducible refine (gradineref19_Check.calls k3 _ _ (rd_L1 l2 x40_3) z5 _ ?s1 ?s2 A20.out).mono ?_); (case s1 => exact sC z7 HB); (case s2 => exact z8.out); rintro e w' ⟨rfl, ⟨nd, rfl⟩⟩; refine ⟨_, rfl, ?_⟩; (try (rw [drewN_self wr]; generalize hq_ : World.drewN wr _ = wr; have n0_ : Aside0 (wr.heap[ze]? = some (.cells #[.int .i64 a1_0, .int .i64 a1_1, .int .i64 a1_2, .int .i64 a1_3, .int .i64 a1_4, .int .i64 a1_5, .int .i64 a1_6, .int .i64 a1_7, .bool a1_8, .slice A1_9 l1_9.length c1_9] 24 (0, 0))) := ⟨by rw [← hq_]; exact (pK zb.out)⟩; have n1_ : Aside0 (wr.heap[zc]? = some (.cells #[.slice none 0 0, .slice none 0 0, .slice none 0 0] 29 (0, 0))) := ⟨by rw [← hq_]; exact (pK zd.out)⟩; have n2_ : Aside0 (Below w.heap.size w wr) := ⟨by rw [← hq_]; exact (qB2 HB zf zh)⟩; clear zb zd HB hq_; have zb := n0_; have zd := n1_; have HB := n2_; clear n0_ n1_ n2_)); have hnb22 := zi.out; have hnc22 := za.out; obtain ⟨hcz23_0, hcz23_1, hcz23_2, hfz23_0, hfz23_1, hfz23_2⟩ := blk3 zd.out))
         refine bodyPost_ret (results_ct rfl _ _ zc 29 #[.slice none 0 0, .slice none 0 0, .slice none 0 0] (0, 0) _ rfl (by exact P3 zd) Try.underlying29 rfl (by kernel_rfl)) rfl ?_
         exact ⟨_, _, _, pE, pN, pN, pN, qB2 HB zf zh⟩
        rw [if_pos c21] at H
        have c21b0 : (z5 == 0) = true := beq_iff_eq.mpr c21
        have c21b1 : (z5 != 0) = false := bne_eq_false_iff_eq.mpr c21
        clear c21
        have H' := aM H
        clear H
        have p823 : 0 ≤ (x40_3 : Int) := of_decide_eq_true pD
        have q823 : x40_3 < (l2.length : Int) := of_decide_eq_true pD
        obtain ⟨ad823, A823_0, c823_0, e823, hx823_0, hl823_0, hi823_0⟩ := at_L1 HR2.out x40_3 p823 q823
        cases e823
        replace hx823_0 := (HB.out.cell (World.block_lt_of_cell? w _ hx823_0)).trans hx823_0
        have z7 := aM hi823_0
        have z8 := aM hl823_0
        clear hi823_0 hl823_0
        replace p823 := eq_true p823
        replace q823 := eq_true q823
        go_wp2_with (first | ((with_reducible refine gate_callee (f := 14) rfl ?_); refine goesL_ (some 47) rfl rfl Try.func14 (by kernel_rfl) rfl #[.slice A823_0 (rd_L1 l2 x40_3).length c823_0] rfl pA ?_; (with_reducible refine (gradineref19_Check.calls k3 _ _ (rd_L1 l2 x40_3) z5 _ ?s1 ?s2 A20.out).mono ?_); (case s1 => exact sC z7 HB); (case s2 => exact z8.out); rintro e w' ⟨rfl, ⟨nd, rfl⟩⟩; refine ⟨_, rfl, ?_⟩))
        go_roundg k3
        case measure => have := HJ3.out; have := zau.out; have := HK3.out; omega
        case rel => exact ⟨(wrap64 (x40_3 + 1)), (pF), H', ⟨by have := HJ3.out; have := zau.out; have := HK3.out; omega⟩, ⟨pK zb.out⟩, ⟨pK zd.out⟩, ⟨qB2 HB zf zh⟩⟩
       rw [if_neg c17] at H
       have zax : decide (x40_3 < (l2.length : Int)) = false := decide_eq_false c17
       clear c17
       by_cases c24 : a0 = 39
       ·rw [if_pos c24] at H
        have zay : (a0 == 39) = true := beq_iff_eq.mpr c24
        have zaz : (a0 != 39) = false := bne_eq_false_iff_eq.mpr c24
        clear c24
        by_cases c25 : 0 < (l2.length : Int)
        rotate_left
        ·rw [if_neg c25] at H
         exact absurd H (by simp)
        rw [if_pos c25] at H
        have c25b0 : decide (0 < (l2.length : Int)) = true := decide_eq_true c25
        have c25b1 : decide (0 < l2.length) = true := decide_eq_true (by omega)
        clear c25
        replace H := Option.bind_eq_some_iff.mp H
        obtain ⟨⟨zbd, zbe, zbf, t835⟩, zbg, H⟩ := H
        try dsimp only at H
        have A26 := aM zbg
        clear zbg
        simp only [Option.some.injEq, Prod.mk.injEq] at H
        obtain ⟨rfl, rfl, rfl, rfl⟩ := H
        try go_wp2
        replace zb := aM (blk_drew zb.out)
        replace zd := aM (blk_drew zd.out)
        replace HB := aM (below_drew1 HB.out)
        have p825 : 0 ≤ (0 : Int) := (by omega)
        have q825 : 0 < (l2.length : Int) := of_decide_eq_true pD
        obtain ⟨ad825, A825_0, c825_0, e825, hx825_0, hl825_0, hi825_0⟩ := at_L1 HR2.out 0 p825 q825
        have hw825_0 := hx825_0
        (try rw [show ((0 : Int)).toNat = 0 from rfl] at hw825_0)
        (try rw [show 0 * 1 = 0 from rfl] at hw825_0)
        (try rw [Addr.add_zero'] at hw825_0)
        cases e825
        have qi825 : (0 < l2.length) = True := eq_true (by omega)
        (try rw [show ((0 : Int)).toNat = 0 from rfl] at hx825_0)
        (try rw [Addr.add_zero'] at hx825_0)
        replace hx825_0 := (HB.out.cell (World.block_lt_of_cell? w _ hx825_0)).trans hx825_0
        have zam := aM hi825_0
        have HC825_0 := aM hl825_0
        clear hi825_0 hl825_0
        replace p825 := eq_true p825
        replace q825 := eq_true q825
        refine start_ (n := 9) (S := fun w' => w'.cell? ⟨ze, 0, none⟩ = some (.int .i64 a1_0) ∧ w'.cell? ⟨ze, 1, none⟩ = some (.int .i64 a1_1) ∧ w'.cell? ⟨ze, 2, none⟩ = some (.int .i64 a1_2) ∧ w'.cell? ⟨ze, 3, none⟩ = some (.int .i64 a1_3) ∧ w'.cell? ⟨ze, 4, none⟩ = some (.int .i64 a1_4) ∧ w'.cell? ⟨ze, 5, none⟩ = some (.int .i64 a1_5) ∧ w'.cell? ⟨ze, 6, none⟩ = some (.int .i64 a1_6) ∧ w'.cell? ⟨ze, 7, none⟩ = some (.int .i64 a1_7) ∧ w'.cell? ⟨ze, 8, none⟩ = some (.bool a1_8) ∧ w'.cell? ⟨ze, 9, none⟩ = some (.slice A1_9 l1_9.length c1_9) ∧ w'.cell? ad825 = some (.slice A825_0 (rd_L1 l2 0).length c825_0)) (ds := []) (bm 9 0) (by kernel_rfl) rfl rfl ⟨(blk_cell zb.out 0).trans rfl, (blk_cell zb.out 1).trans rfl, (blk_cell zb.out 2).trans rfl, (blk_cell zb.out 3).trans rfl, (blk_cell zb.out 4).trans rfl, (blk_cell zb.out 5).trans rfl, (blk_cell zb.out 6).trans rfl, (blk_cell zb.out 7).trans rfl, (blk_cell zb.out 8).trans rfl, (blk_cell zb.out 9).trans rfl, ((HB.out.cell (World.block_lt_of_cell? w _ hw825_0)).trans hw825_0)⟩ (fun hHeld => ?_); refine with_tabW gradineref29_Of.tab13 gradineref29_Of.bits13 (fun HT_ HW_ => ?_)
        generalize wr.drew = w27 at zb zd HB zam hx825_0 hHeld ⊢
        refine pP (i := 0) (N := some 55) (bm 9 1) rfl rfl HT_.out ?_
        refine pP (i := 1) (N := some 56) (bm 9 3) rfl rfl HT_.out ?_
        refine pT (i := 2) (N := some 57) (bm 9 7) rfl rfl HT_.out HW_.out hHeld (by rintro w' ⟨s0, s1, s2, s3, s4, s5, s6, s7, s8, s9, s10⟩; go_simp; with_reducible rfl) ?_
        refine pT (i := 3) (N := some 58) (bm 9 15) rfl rfl HT_.out HW_.out hHeld (by rintro w' ⟨s0, s1, s2, s3, s4, s5, s6, s7, s8, s9, s10⟩; go_simp; with_reducible rfl) ?_
        refine one_ (i := 4) (N := some 59) (bm 9 31) rfl rfl (one_of HT_.out (by kernel_rfl)) (by decide) (fun K hK => ?_)
        refine goes_ Try.func15 (by kernel_rfl) rfl #[.slice A825_0 (rd_L1 l2 0).length c825_0, .agg #[.int .i64 a1_0, .int .i64 a1_1, .int .i64 a1_2, .int .i64 a1_3, .int .i64 a1_4, .int .i64 a1_5, .int .i64 a1_6, .int .i64 a1_7, .bool a1_8, .slice A1_9 l1_9.length c1_9]] (by rfl) rfl rfl pA ?_
        with_reducible refine (gradineref29_put.calls k3 _ _ (rd_L1 l2 0) a1_0 a1_1 a1_2 a1_3 a1_4 a1_5 a1_6 a1_7 a1_8 _ _ l1_9 zbd zbe zbf t835 _ ?s1 ?s2 ?s3 ?s4 A26.out).mono ?_
        (case s1 => exact sC zam HB)
        (case s2 => exact HC825_0.out)
        (case s3 => exact sC zaq HB)
        (case s4 => exact zar.out)
        rintro e w28 ⟨v827, v830, v833, rfl, ho0, ho1, ho2, hb⟩
        refine ⟨_, rfl, ?_⟩
        have za0 := aM (Kd.R_lower ho0 (below_size (qB2 HB zf zh)))
        have za1 := aM (Kd.R_lower ho1 (below_size (qB2 HB zf zh)))
        have za2 := aM (Kd.R_lower ho2 (below_size (qB2 HB zf zh)))
        replace zb := bK zb hb
        replace zd := bK zd hb
        replace HB := bS (qB2 HB zf zh) hb
        (try clear hb)
        (try clear ho0)
        (try clear ho1)
        (try clear ho2)
        obtain ⟨Ao29, co29, zbh⟩ := Kd.R_slice za0.out
        (first | subst zbh | (injection zbh with f1_ f2_ f3_; have f4_ := f1_.symm; have f5_ := f3_.symm; clear f1_ f2_ f3_; subst f4_; subst f5_))
        obtain ⟨Ao31, co31, zbi⟩ := Kd.R_slice za1.out
        (first | subst zbi | (injection zbi with f1_ f2_ f3_; have f4_ := f1_.symm; have f5_ := f3_.symm; clear f1_ f2_ f3_; subst f4_; subst f5_))
        obtain ⟨Ao33, co33, zbj⟩ := Kd.R_slice za2.out
        (first | subst zbj | (injection zbj with f1_ f2_ f3_; have f4_ := f1_.symm; have f5_ := f3_.symm; clear f1_ f2_ f3_; subst f4_; subst f5_))
        refine hK.out _ _ ⟨(blk_cell zb.out 0).trans rfl, (blk_cell zb.out 1).trans rfl, (blk_cell zb.out 2).trans rfl, (blk_cell zb.out 3).trans rfl, (blk_cell zb.out 4).trans rfl, (blk_cell zb.out 5).trans rfl, (blk_cell zb.out 6).trans rfl, (blk_cell zb.out 7).trans rfl, (blk_cell zb.out 8).trans rfl, (blk_cell zb.out 9).trans rfl, ((HB.out.cell (World.block_lt_of_cell? w _ hw825_0)).trans hw825_0)⟩ (fun hHeld => ?_)
        clear hK K
        refine norm_ (a' := ?_) ?_ ?_
        rotate_left
        ·show Act.put _ (some 59) _ = _
         simp only [Act.put, sP, i64_w, i32_w]
         rfl
        refine pP (i := 5) (N := some 60) (bm 9 63) rfl rfl HT_.out ?_
        refine pP (i := 6) (N := some 61) (bm 9 127) rfl rfl HT_.out ?_
        refine one_ (i := 7) (N := none) (bm 9 255) rfl rfl (one_of HT_.out (by kernel_rfl)) (by decide) (fun K hK => ?_)
        have hs30 : w28.cell? ⟨zc, 0, none⟩ = some (.slice none 0 0) := (blk_cell zd.out 0).trans rfl
        have hfs30 := blk_frozen zd.out 0
        have hns30_0 := za.out
        have hms30_0 := zi.out
        have hs32 : w28.cell? ⟨zc, 1, none⟩ = some (.slice none 0 0) := (blk_cell zd.out 1).trans rfl
        have hfs32 := blk_frozen zd.out 1
        have hns32_0 := za.out
        have hms32_0 := zi.out
        have hs34 : w28.cell? ⟨zc, 2, none⟩ = some (.slice none 0 0) := (blk_cell zd.out 2).trans rfl
        have hfs34 := blk_frozen zd.out 2
        have hns34_0 := za.out
        have hms34_0 := zi.out
        refine skip_ (w1 := ?_) (by rfl) rfl ?_ ?_
        rotate_left
        ·go_simp
         rfl
        refine hK.out _ _ ⟨((cell_far (p := ⟨zc, _, none⟩) za.out _).trans (((cell_far (p := ⟨zc, _, none⟩) za.out _).trans (((cell_far (p := ⟨zc, _, none⟩) za.out _).trans (hHeld.1)))))), ((cell_far (p := ⟨zc, _, none⟩) za.out _).trans (((cell_far (p := ⟨zc, _, none⟩) za.out _).trans (((cell_far (p := ⟨zc, _, none⟩) za.out _).trans (hHeld.2.1)))))), ((cell_far (p := ⟨zc, _, none⟩) za.out _).trans (((cell_far (p := ⟨zc, _, none⟩) za.out _).trans (((cell_far (p := ⟨zc, _, none⟩) za.out _).trans (hHeld.2.2.1)))))), ((cell_far (p := ⟨zc, _, none⟩) za.out _).trans (((cell_far (p := ⟨zc, _, none⟩) za.out _).trans (((cell_far (p := ⟨zc, _, none⟩) za.out _).trans (hHeld.2.2.2.1)))))), ((cell_far (p := ⟨zc, _, none⟩) za.out _).trans (((cell_far (p := ⟨zc, _, none⟩) za.out _).trans (((cell_far (p := ⟨zc, _, none⟩) za.out _).trans (hHeld.2.2.2.2.1)))))), ((cell_far (p := ⟨zc, _, none⟩) za.out _).trans (((cell_far (p := ⟨zc, _, none⟩) za.out _).trans (((cell_far (p := ⟨zc, _, none⟩) za.out _).trans (hHeld.2.2.2.2.2.1)))))), ((cell_far (p := ⟨zc, _, none⟩) za.out _).trans (((cell_far (p := ⟨zc, _, none⟩) za.out _).trans (((cell_far (p := ⟨zc, _, none⟩) za.out _).trans (hHeld.2.2.2.2.2.2.1)))))), ((cell_far (p := ⟨zc, _, none⟩) za.out _).trans (((cell_far (p := ⟨zc, _, none⟩) za.out _).trans (((cell_far (p := ⟨zc, _, none⟩) za.out _).trans (hHeld.2.2.2.2.2.2.2.1)))))), ((cell_far (p := ⟨zc, _, none⟩) za.out _).trans (((cell_far (p := ⟨zc, _, none⟩) za.out _).trans (((cell_far (p := ⟨zc, _, none⟩) za.out _).trans (hHeld.2.2.2.2.2.2.2.2.1)))))), ((cell_far (p := ⟨zc, _, none⟩) za.out _).trans (((cell_far (p := ⟨zc, _, none⟩) za.out _).trans (((cell_far (p := ⟨zc, _, none⟩) za.out _).trans (hHeld.2.2.2.2.2.2.2.2.2.1)))))), ((cell_far (p := ⟨zc, _, none⟩) (by first | exact Nat.ne_of_lt (Nat.lt_of_lt_of_le (by have := World.block_lt_of_cell? _ _ hw825_0; first | rwa [add_block] at this | exact this) zg.out) | (rw [add_block]; exact Nat.ne_of_lt (Nat.lt_of_lt_of_le (by have := World.block_lt_of_cell? _ _ hw825_0; first | rwa [add_block] at this | exact this) zg.out)) | (show (Addr.add _ _).block ≠ _; rw [add_block]; exact Nat.ne_of_lt (Nat.lt_of_lt_of_le (by have := World.block_lt_of_cell? _ _ hw825_0; first | rwa [add_block] at this | exact this) zg.out)) | (dsimp only; exact Nat.ne_of_lt (Nat.lt_of_lt_of_le (by have := World.block_lt_of_cell? _ _ hw825_0; first | rwa [add_block] at this | exact this) zg.out))) _).trans (((cell_far (p := ⟨zc, _, none⟩) (by first | exact Nat.ne_of_lt (Nat.lt_of_lt_of_le (by have := World.block_lt_of_cell? _ _ hw825_0; first | rwa [add_block] at this | exact this) zg.out) | (rw [add_block]; exact Nat.ne_of_lt (Nat.lt_of_lt_of_le (by have := World.block_lt_of_cell? _ _ hw825_0; first | rwa [add_block] at this | exact this) zg.out)) | (show (Addr.add _ _).block ≠ _; rw [add_block]; exact Nat.ne_of_lt (Nat.lt_of_lt_of_le (by have := World.block_lt_of_cell? _ _ hw825_0; first | rwa [add_block] at this | exact this) zg.out)) | (dsimp only; exact Nat.ne_of_lt (Nat.lt_of_lt_of_le (by have := World.block_lt_of_cell? _ _ hw825_0; first | rwa [add_block] at this | exact this) zg.out))) _).trans (((cell_far (p := ⟨zc, _, none⟩) (by first | exact Nat.ne_of_lt (Nat.lt_of_lt_of_le (by have := World.block_lt_of_cell? _ _ hw825_0; first | rwa [add_block] at this | exact this) zg.out) | (rw [add_block]; exact Nat.ne_of_lt (Nat.lt_of_lt_of_le (by have := World.block_lt_of_cell? _ _ hw825_0; first | rwa [add_block] at this | exact this) zg.out)) | (show (Addr.add _ _).block ≠ _; rw [add_block]; exact Nat.ne_of_lt (Nat.lt_of_lt_of_le (by have := World.block_lt_of_cell? _ _ hw825_0; first | rwa [add_block] at this | exact this) zg.out)) | (dsimp only; exact Nat.ne_of_lt (Nat.lt_of_lt_of_le (by have := World.block_lt_of_cell? _ _ hw825_0; first | rwa [add_block] at this | exact this) zg.out))) _).trans (hHeld.2.2.2.2.2.2.2.2.2.2))))))⟩ (fun hHeld => ?_)
        clear hK K
        refine pP (i := 8) (N := some 7) (bm 9 511) rfl rfl HT_.out ?_
        refine done_ (done_of HT_.out (by kernel_rfl)) ?_
        try go_wp2
        refine bodyPost_ret (results_ct rfl _ _ zc 29 #[.slice Ao29 zbd.length co29, .slice Ao31 zbe.length co31, .slice Ao33 zbf.length co33] (0, 0) _ rfl (by exact P3 zd) Try.underlying29 rfl (by kernel_rfl)) rfl ?_
        exact ⟨_, _, _, pE, by (with_reducible repeat (first | apply rA | apply rN | apply rD)); exact F3 za0 zd (fun _ hk => ⟨hk.1.1, hk.1.2⟩), by (with_reducible repeat (first | apply rA | apply rN | apply rD)); exact F3 za1 zd (fun _ hk => ⟨hk.1.1, hk.1.2⟩), by (with_reducible repeat (first | apply rA | apply rN | apply rD)); exact F3 za2 zd (fun _ hk => ⟨hk.1.1, hk.1.2⟩), qB2 HB zf zh⟩
       rw [if_neg c24] at H
       have zay : (a0 == 39) = false := beq_eq_false_iff_ne.mpr c24
       have zaz : (a0 != 39) = true := bne_iff_ne.mpr c24
       by_cases c35 : a0 = 40
       ·rw [if_pos c35] at H
        have za3 : (a0 == 40) = true := beq_iff_eq.mpr c35
        have za4 : (a0 != 40) = false := bne_eq_false_iff_eq.mpr c35
        clear c35
        by_cases c36 : 0 < (l2.length : Int)
        rotate_left
        ·rw [if_neg c36] at H
         exact absurd H (by simp)
        rw [if_pos c36] at H
        have c36b0 : decide (0 < (l2.length : Int)) = true := decide_eq_true c36
        have c36b1 : decide (0 < l2.length) = true := decide_eq_true (by omega)
        clear c36
        by_cases c37 : 1 < (l2.length : Int)
        rotate_left
        ·rw [if_neg c37] at H
         exact absurd H (by simp)
        rw [if_pos c37] at H
        have c37b0 : decide (1 < (l2.length : Int)) = true := decide_eq_true c37
        have c37b1 : decide (1 < l2.length) = true := decide_eq_true (by omega)
        clear c37
        replace H := Option.bind_eq_some_iff.mp H
        obtain ⟨⟨zbk, zbl, zbm, t847⟩, zbn, H⟩ := H
        try dsimp only at H
        have A38 := aM zbn
        clear zbn
        simp only [Option.some.injEq, Prod.mk.injEq] at H
        obtain ⟨rfl, rfl, rfl, rfl⟩ := H
        try go_wp2
        replace zb := aM (blk_drew zb.out)
        replace zd := aM (blk_drew zd.out)
        replace HB := aM (below_drew1 HB.out)
        have p836 : 0 ≤ (0 : Int) := (by omega)
        have q836 : 0 < (l2.length : Int) := of_decide_eq_true pD
        obtain ⟨ad836, A836_0, c836_0, e836, hx836_0, hl836_0, hi836_0⟩ := at_L1 HR2.out 0 p836 q836
        have hw836_0 := hx836_0
        (try rw [show ((0 : Int)).toNat = 0 from rfl] at hw836_0)
        (try rw [show 0 * 1 = 0 from rfl] at hw836_0)
        (try rw [Addr.add_zero'] at hw836_0)
        cases e836
        have qi836 : (0 < l2.length) = True := eq_true (by omega)
        (try rw [show ((0 : Int)).toNat = 0 from rfl] at hx836_0)
        (try rw [Addr.add_zero'] at hx836_0)
        replace hx836_0 := (HB.out.cell (World.block_lt_of_cell? w _ hx836_0)).trans hx836_0
        have zan := aM hi836_0
        have HC836_0 := aM hl836_0
        clear hi836_0 hl836_0
        replace p836 := eq_true p836
        replace q836 := eq_true q836
        have p837 : 0 ≤ (1 : Int) := (by omega)
        have q837 : 1 < (l2.length : Int) := of_decide_eq_true pD
        obtain ⟨ad837, A837_0, c837_0, e837, hx837_0, hl837_0, hi837_0⟩ := at_L1 HR2.out 1 p837 q837
        have hw837_0 := hx837_0
        (try rw [show ((1 : Int)).toNat = 1 from rfl] at hw837_0)
        (try rw [show 1 * 1 = 1 from rfl] at hw837_0)
        (try simp only [Nat.reduceMul, Nat.reduceEqDiff, Go.Addr.add, ↓reduceIte] at hw837_0)
        obtain rfl : ad836 = ad837 := (by injection e837)
        (try simp only [show (1 : Int).toNat = 1 from rfl, Nat.reduceMul, Nat.reduceEqDiff, Go.Addr.add, ↓reduceIte] at hx837_0)
        have qi837 : (1 < l2.length) = True := eq_true (by omega)
        (try rw [show ((1 : Int)).toNat = 1 from rfl] at hx837_0)
        replace hx837_0 := (HB.out.cell (World.block_lt_of_cell? w _ hx837_0)).trans hx837_0
        have zao := aM hi837_0
        have HC837_0 := aM hl837_0
        clear hi837_0 hl837_0
        replace p837 := eq_true p837
        replace q837 := eq_true q837
        refine start_ (n := 13) (S := fun w' => w'.cell? ⟨ze, 0, none⟩ = some (.int .i64 a1_0) ∧ w'.cell? ⟨ze, 1, none⟩ = some (.int .i64 a1_1) ∧ w'.cell? ⟨ze, 2, none⟩ = some (.int .i64 a1_2) ∧ w'.cell? ⟨ze, 3, none⟩ = some (.int .i64 a1_3) ∧ w'.cell? ⟨ze, 4, none⟩ = some (.int .i64 a1_4) ∧ w'.cell? ⟨ze, 5, none⟩ = some (.int .i64 a1_5) ∧ w'.cell? ⟨ze, 6, none⟩ = some (.int .i64 a1_6) ∧ w'.cell? ⟨ze, 7, none⟩ = some (.int .i64 a1_7) ∧ w'.cell? ⟨ze, 8, none⟩ = some (.bool a1_8) ∧ w'.cell? ⟨ze, 9, none⟩ = some (.slice A1_9 l1_9.length c1_9) ∧ w'.cell? ad836 = some (.slice A836_0 (rd_L1 l2 0).length c836_0) ∧ w'.cell? ⟨ad836.block, ad836.off + 1, none⟩ = some (.slice A837_0 (rd_L1 l2 1).length c837_0)) (ds := []) (bm 13 0) (by kernel_rfl) rfl rfl ⟨(blk_cell zb.out 0).trans rfl, (blk_cell zb.out 1).trans rfl, (blk_cell zb.out 2).trans rfl, (blk_cell zb.out 3).trans rfl, (blk_cell zb.out 4).trans rfl, (blk_cell zb.out 5).trans rfl, (blk_cell zb.out 6).trans rfl, (blk_cell zb.out 7).trans rfl, (blk_cell zb.out 8).trans rfl, (blk_cell zb.out 9).trans rfl, ((HB.out.cell (World.block_lt_of_cell? w _ hw836_0)).trans hw836_0), ((HB.out.cell (World.block_lt_of_cell? w _ hw837_0)).trans hw837_0)⟩ (fun hHeld => ?_); refine with_tabW gradineref29_Of.tab15 gradineref29_Of.bits15 (fun HT_ HW_ => ?_)
        generalize wr.drew = w39 at zb zd HB zan zao hx836_0 hx837_0 hHeld ⊢
        refine pP (i := 0) (N := some 64) (bm 13 1) rfl rfl HT_.out ?_
        refine pP (i := 1) (N := some 65) (bm 13 3) rfl rfl HT_.out ?_
        refine pP (i := 3) (N := some 67) (bm 13 11) rfl rfl HT_.out ?_
        refine pP (i := 4) (N := some 68) (bm 13 27) rfl rfl HT_.out ?_
        refine pP (i := 6) (N := some 70) (bm 13 91) rfl rfl HT_.out ?_
        refine pT (i := 2) (N := some 66) (bm 13 95) rfl rfl HT_.out HW_.out hHeld (by rintro w' ⟨s0, s1, s2, s3, s4, s5, s6, s7, s8, s9, s10, s11⟩; go_simp; with_reducible rfl) ?_
        refine pT (i := 5) (N := some 69) (bm 13 127) rfl rfl HT_.out HW_.out hHeld (by rintro w' ⟨s0, s1, s2, s3, s4, s5, s6, s7, s8, s9, s10, s11⟩; go_simp; with_reducible rfl) ?_
        refine pT (i := 7) (N := some 71) (bm 13 255) rfl rfl HT_.out HW_.out hHeld (by rintro w' ⟨s0, s1, s2, s3, s4, s5, s6, s7, s8, s9, s10, s11⟩; go_simp; with_reducible rfl) ?_
        refine one_ (i := 8) (N := some 72) (bm 13 511) rfl rfl (one_of HT_.out (by kernel_rfl)) (by decide) (fun K hK => ?_)
        refine goes_ Try.func16 (by kernel_rfl) rfl #[.slice A836_0 (rd_L1 l2 0).length c836_0, .slice A837_0 (rd_L1 l2 1).length c837_0, .int .i64 a1_0] (by rfl) rfl rfl pA ?_
        with_reducible refine (gradineref29_join.calls k3 _ _ (rd_L1 l2 0) _ _ (rd_L1 l2 1) a1_0 zbk zbl zbm t847 _ ?s1 ?s2 ?s3 ?s4 A38.out).mono ?_
        (case s1 => exact sC zan HB)
        (case s2 => exact HC836_0.out)
        (case s3 => exact sC zao HB)
        (case s4 => exact HC837_0.out)
        rintro e w40 ⟨v839, v842, v845, rfl, ho0, ho1, ho2, hb⟩
        refine ⟨_, rfl, ?_⟩
        have za5 := aM (Kd.R_lower ho0 (below_size (qB2 HB zf zh)))
        have za6 := aM (Kd.R_lower ho1 (below_size (qB2 HB zf zh)))
        have za7 := aM (Kd.R_lower ho2 (below_size (qB2 HB zf zh)))
        replace zb := bK zb hb
        replace zd := bK zd hb
        replace HB := bS (qB2 HB zf zh) hb
        (try clear hb)
        (try clear ho0)
        (try clear ho1)
        (try clear ho2)
        obtain ⟨Ao41, co41, zbo⟩ := Kd.R_slice za5.out
        (first | subst zbo | (injection zbo with f1_ f2_ f3_; have f4_ := f1_.symm; have f5_ := f3_.symm; clear f1_ f2_ f3_; subst f4_; subst f5_))
        obtain ⟨Ao43, co43, zbp⟩ := Kd.R_slice za6.out
        (first | subst zbp | (injection zbp with f1_ f2_ f3_; have f4_ := f1_.symm; have f5_ := f3_.symm; clear f1_ f2_ f3_; subst f4_; subst f5_))
        obtain ⟨Ao45, co45, zbq⟩ := Kd.R_slice za7.out
        (first | subst zbq | (injection zbq with f1_ f2_ f3_; have f4_ := f1_.symm; have f5_ := f3_.symm; clear f1_ f2_ f3_; subst f4_; subst f5_))
        refine hK.out _ _ ⟨(blk_cell zb.out 0).trans rfl, (blk_cell zb.out 1).trans rfl, (blk_cell zb.out 2).trans rfl, (blk_cell zb.out 3).trans rfl, (blk_cell zb.out 4).trans rfl, (blk_cell zb.out 5).trans rfl, (blk_cell zb.out 6).trans rfl, (blk_cell zb.out 7).trans rfl, (blk_cell zb.out 8).trans rfl, (blk_cell zb.out 9).trans rfl, ((HB.out.cell (World.block_lt_of_cell? w _ hw836_0)).trans hw836_0), ((HB.out.cell (World.block_lt_of_cell? w _ hw837_0)).trans hw837_0)⟩ (fun hHeld => ?_)
        clear hK K
        refine norm_ (a' := ?_) ?_ ?_
        rotate_left
        ·show Act.put _ (some 72) _ = _
         simp only [Act.put, sP, i64_w, i32_w]
         rfl
        refine pP (i := 9) (N := some 73) (bm 13 1023) rfl rfl HT_.out ?_
        refine pP (i := 10) (N := some 74) (bm 13 2047) rfl rfl HT_.out ?_
        refine one_ (i := 11) (N := none) (bm 13 4095) rfl rfl (one_of HT_.out (by kernel_rfl)) (by decide) (fun K hK => ?_)
        have hs42 : w40.cell? ⟨zc, 0, none⟩ = some (.slice none 0 0) := (blk_cell zd.out 0).trans rfl
        have hfs42 := blk_frozen zd.out 0
        have hns42_0 := za.out
        have hms42_0 := zi.out
        have hs44 : w40.cell? ⟨zc, 1, none⟩ = some (.slice none 0 0) := (blk_cell zd.out 1).trans rfl
        have hfs44 := blk_frozen zd.out 1
        have hns44_0 := za.out
        have hms44_0 := zi.out
        have hs46 : w40.cell? ⟨zc, 2, none⟩ = some (.slice none 0 0) := (blk_cell zd.out 2).trans rfl
        have hfs46 := blk_frozen zd.out 2
        have hns46_0 := za.out
        have hms46_0 := zi.out
        refine skip_ (w1 := ?_) (by rfl) rfl ?_ ?_
        rotate_left
        ·go_simp
         rfl
        refine hK.out _ _ ⟨((cell_far (p := ⟨zc, _, none⟩) za.out _).trans (((cell_far (p := ⟨zc, _, none⟩) za.out _).trans (((cell_far (p := ⟨zc, _, none⟩) za.out _).trans (hHeld.1)))))), ((cell_far (p := ⟨zc, _, none⟩) za.out _).trans (((cell_far (p := ⟨zc, _, none⟩) za.out _).trans (((cell_far (p := ⟨zc, _, none⟩) za.out _).trans (hHeld.2.1)))))), ((cell_far (p := ⟨zc, _, none⟩) za.out _).trans (((cell_far (p := ⟨zc, _, none⟩) za.out _).trans (((cell_far (p := ⟨zc, _, none⟩) za.out _).trans (hHeld.2.2.1)))))), ((cell_far (p := ⟨zc, _, none⟩) za.out _).trans (((cell_far (p := ⟨zc, _, none⟩) za.out _).trans (((cell_far (p := ⟨zc, _, none⟩) za.out _).trans (hHeld.2.2.2.1)))))), ((cell_far (p := ⟨zc, _, none⟩) za.out _).trans (((cell_far (p := ⟨zc, _, none⟩) za.out _).trans (((cell_far (p := ⟨zc, _, none⟩) za.out _).trans (hHeld.2.2.2.2.1)))))), ((cell_far (p := ⟨zc, _, none⟩) za.out _).trans (((cell_far (p := ⟨zc, _, none⟩) za.out _).trans (((cell_far (p := ⟨zc, _, none⟩) za.out _).trans (hHeld.2.2.2.2.2.1)))))), ((cell_far (p := ⟨zc, _, none⟩) za.out _).trans (((cell_far (p := ⟨zc, _, none⟩) za.out _).trans (((cell_far (p := ⟨zc, _, none⟩) za.out _).trans (hHeld.2.2.2.2.2.2.1)))))), ((cell_far (p := ⟨zc, _, none⟩) za.out _).trans (((cell_far (p := ⟨zc, _, none⟩) za.out _).trans (((cell_far (p := ⟨zc, _, none⟩) za.out _).trans (hHeld.2.2.2.2.2.2.2.1)))))), ((cell_far (p := ⟨zc, _, none⟩) za.out _).trans (((cell_far (p := ⟨zc, _, none⟩) za.out _).trans (((cell_far (p := ⟨zc, _, none⟩) za.out _).trans (hHeld.2.2.2.2.2.2.2.2.1)))))), ((cell_far (p := ⟨zc, _, none⟩) za.out _).trans (((cell_far (p := ⟨zc, _, none⟩) za.out _).trans (((cell_far (p := ⟨zc, _, none⟩) za.out _).trans (hHeld.2.2.2.2.2.2.2.2.2.1)))))), ((cell_far (p := ⟨zc, _, none⟩) (by first | exact Nat.ne_of_lt (Nat.lt_of_lt_of_le (by have := World.block_lt_of_cell? _ _ hw836_0; first | rwa [add_block] at this | exact this) zg.out) | (rw [add_block]; exact Nat.ne_of_lt (Nat.lt_of_lt_of_le (by have := World.block_lt_of_cell? _ _ hw836_0; first | rwa [add_block] at this | exact this) zg.out)) | (show (Addr.add _ _).block ≠ _; rw [add_block]; exact Nat.ne_of_lt (Nat.lt_of_lt_of_le (by have := World.block_lt_of_cell? _ _ hw836_0; first | rwa [add_block] at this | exact this) zg.out)) | (dsimp only; exact Nat.ne_of_lt (Nat.lt_of_lt_of_le (by have := World.block_lt_of_cell? _ _ hw836_0; first | rwa [add_block] at this | exact this) zg.out))) _).trans (((cell_far (p := ⟨zc, _, none⟩) (by first | exact Nat.ne_of_lt (Nat.lt_of_lt_of_le (by have := World.block_lt_of_cell? _ _ hw836_0; first | rwa [add_block] at this | exact this) zg.out) | (rw [add_block]; exact Nat.ne_of_lt (Nat.lt_of_lt_of_le (by have := World.block_lt_of_cell? _ _ hw836_0; first | rwa [add_block] at this | exact this) zg.out)) | (show (Addr.add _ _).block ≠ _; rw [add_block]; exact Nat.ne_of_lt (Nat.lt_of_lt_of_le (by have := World.block_lt_of_cell? _ _ hw836_0; first | rwa [add_block] at this | exact this) zg.out)) | (dsimp only; exact Nat.ne_of_lt (Nat.lt_of_lt_of_le (by have := World.block_lt_of_cell? _ _ hw836_0; first | rwa [add_block] at this | exact this) zg.out))) _).trans (((cell_far (p := ⟨zc, _, none⟩) (by first | exact Nat.ne_of_lt (Nat.lt_of_lt_of_le (by have := World.block_lt_of_cell? _ _ hw836_0; first | rwa [add_block] at this | exact this) zg.out) | (rw [add_block]; exact Nat.ne_of_lt (Nat.lt_of_lt_of_le (by have := World.block_lt_of_cell? _ _ hw836_0; first | rwa [add_block] at this | exact this) zg.out)) | (show (Addr.add _ _).block ≠ _; rw [add_block]; exact Nat.ne_of_lt (Nat.lt_of_lt_of_le (by have := World.block_lt_of_cell? _ _ hw836_0; first | rwa [add_block] at this | exact this) zg.out)) | (dsimp only; exact Nat.ne_of_lt (Nat.lt_of_lt_of_le (by have := World.block_lt_of_cell? _ _ hw836_0; first | rwa [add_block] at this | exact this) zg.out))) _).trans (hHeld.2.2.2.2.2.2.2.2.2.2.1)))))), ((cell_far (p := ⟨zc, _, none⟩) (by first | exact Nat.ne_of_lt (Nat.lt_of_lt_of_le (by have := World.block_lt_of_cell? _ _ hw837_0; first | rwa [add_block] at this | exact this) zg.out) | (rw [add_block]; exact Nat.ne_of_lt (Nat.lt_of_lt_of_le (by have := World.block_lt_of_cell? _ _ hw837_0; first | rwa [add_block] at this | exact this) zg.out)) | (show (Addr.add _ _).block ≠ _; rw [add_block]; exact Nat.ne_of_lt (Nat.lt_of_lt_of_le (by have := World.block_lt_of_cell? _ _ hw837_0; first | rwa [add_block] at this | exact this) zg.out)) | (dsimp only; exact Nat.ne_of_lt (Nat.lt_of_lt_of_le (by have := World.block_lt_of_cell? _ _ hw837_0; first | rwa [add_block] at this | exact this) zg.out))) _).trans (((cell_far (p := ⟨zc, _, none⟩) (by first | exact Nat.ne_of_lt (Nat.lt_of_lt_of_le (by have := World.block_lt_of_cell? _ _ hw837_0; first | rwa [add_block] at this | exact this) zg.out) | (rw [add_block]; exact Nat.ne_of_lt (Nat.lt_of_lt_of_le (by have := World.block_lt_of_cell? _ _ hw837_0; first | rwa [add_block] at this | exact this) zg.out)) | (show (Addr.add _ _).block ≠ _; rw [add_block]; exact Nat.ne_of_lt (Nat.lt_of_lt_of_le (by have := World.block_lt_of_cell? _ _ hw837_0; first | rwa [add_block] at this | exact this) zg.out)) | (dsimp only; exact Nat.ne_of_lt (Nat.lt_of_lt_of_le (by have := World.block_lt_of_cell? _ _ hw837_0; first | rwa [add_block] at this | exact this) zg.out))) _).trans (((cell_far (p := ⟨zc, _, none⟩) (by first | exact Nat.ne_of_lt (Nat.lt_of_lt_of_le (by have := World.block_lt_of_cell? _ _ hw837_0; first | rwa [add_block] at this | exact this) zg.out) | (rw [add_block]; exact Nat.ne_of_lt (Nat.lt_of_lt_of_le (by have := World.block_lt_of_cell? _ _ hw837_0; first | rwa [add_block] at this | exact this) zg.out)) | (show (Addr.add _ _).block ≠ _; rw [add_block]; exact Nat.ne_of_lt (Nat.lt_of_lt_of_le (by have := World.block_lt_of_cell? _ _ hw837_0; first | rwa [add_block] at this | exact this) zg.out)) | (dsimp only; exact Nat.ne_of_lt (Nat.lt_of_lt_of_le (by have := World.block_lt_of_cell? _ _ hw837_0; first | rwa [add_block] at this | exact this) zg.out))) _).trans (hHeld.2.2.2.2.2.2.2.2.2.2.2))))))⟩ (fun hHeld => ?_)
        clear hK K
        refine pP (i := 12) (N := some 7) (bm 13 8191) rfl rfl HT_.out ?_
        refine done_ (done_of HT_.out (by kernel_rfl)) ?_
        try go_wp2
        refine bodyPost_ret (results_ct rfl _ _ zc 29 #[.slice Ao41 zbk.length co41, .slice Ao43 zbl.length co43, .slice Ao45 zbm.length co45] (0, 0) _ rfl (by exact P3 zd) Try.underlying29 rfl (by kernel_rfl)) rfl ?_
        exact ⟨_, _, _, pE, by (with_reducible repeat (first | apply rA | apply rN | apply rD)); exact F3 za5 zd (fun _ hk => ⟨hk.1.1, hk.1.2⟩), by (with_reducible repeat (first | apply rA | apply rN | apply rD)); exact F3 za6 zd (fun _ hk => ⟨hk.1.1, hk.1.2⟩), by (with_reducible repeat (first | apply rA | apply rN | apply rD)); exact F3 za7 zd (fun _ hk => ⟨hk.1.1, hk.1.2⟩), qB2 HB zf zh⟩
       rw [if_neg c35] at H
       have za3 : (a0 == 40) = false := beq_eq_false_iff_ne.mpr c35
       have za4 : (a0 != 40) = true := bne_iff_ne.mpr c35
       by_cases c47 : 0 < (l2.length : Int)
       rotate_left
       ·rw [if_neg c47] at H
        exact absurd H (by simp)

       rw [if_pos c47] at H
       have c47b0 : decide (0 < (l2.length : Int)) = true := decide_eq_true c47
       have c47b1 : decide (0 < l2.length) = true := decide_eq_true (by omega)
       clear c47
       replace H := Option.bind_eq_some_iff.mp H
       obtain ⟨⟨z2, z0, zaj⟩, zbr, H⟩ := H
       try dsimp only at H
       have A48 := aM zbr
       clear zbr
       by_cases c49 : zaj = 0
       rotate_left
       ·rw [if_neg c49] at H
        have za8 : (zaj == 0) = false := beq_eq_false_iff_ne.mpr c49
        have za9 : (zaj != 0) = true := bne_iff_ne.mpr c49
        simp only [Option.some.injEq, Prod.mk.injEq] at H
        obtain ⟨rfl, rfl, rfl, rfl⟩ := H
        try go_wp2
        replace zb := aM (blk_drew zb.out)
        replace zd := aM (blk_drew zd.out)
        replace HB := aM (below_drew1 HB.out)
        have p848 : 0 ≤ (0 : Int) := (by omega)
        have q848 : 0 < (l2.length : Int) := of_decide_eq_true pD
        obtain ⟨ad848, A848_0, c848_0, e848, hx848_0, hl848_0, hi848_0⟩ := at_L1 HR2.out 0 p848 q848
        have hw848_0 := hx848_0
        (try rw [show ((0 : Int)).toNat = 0 from rfl] at hw848_0)
        (try rw [show 0 * 1 = 0 from rfl] at hw848_0)
        (try rw [Addr.add_zero'] at hw848_0)
        cases e848
        have qi848 : (0 < l2.length) = True := eq_true (by omega)
        (try rw [show ((0 : Int)).toNat = 0 from rfl] at hx848_0)
        (try rw [Addr.add_zero'] at hx848_0)
        replace hx848_0 := (HB.out.cell (World.block_lt_of_cell? w _ hx848_0)).trans hx848_0
        have z1 := aM hi848_0
        have z9 := aM hl848_0
        clear hi848_0 hl848_0
        replace p848 := eq_true p848
        replace q848 := eq_true q848
        refine start_ (n := 13) (S := fun w' => w'.cell? ⟨ze, 0, none⟩ = some (.int .i64 a1_0) ∧ w'.cell? ⟨ze, 1, none⟩ = some (.int .i64 a1_1) ∧ w'.cell? ⟨ze, 2, none⟩ = some (.int .i64 a1_2) ∧ w'.cell? ⟨ze, 3, none⟩ = some (.int .i64 a1_3) ∧ w'.cell? ⟨ze, 4, none⟩ = some (.int .i64 a1_4) ∧ w'.cell? ⟨ze, 5, none⟩ = some (.int .i64 a1_5) ∧ w'.cell? ⟨ze, 6, none⟩ = some (.int .i64 a1_6) ∧ w'.cell? ⟨ze, 7, none⟩ = some (.int .i64 a1_7) ∧ w'.cell? ⟨ze, 8, none⟩ = some (.bool a1_8) ∧ w'.cell? ⟨ze, 9, none⟩ = some (.slice A1_9 l1_9.length c1_9) ∧ w'.cell? ad848 = some (.slice A848_0 (rd_L1 l2 0).length c848_0)) (ds := []) (bm 13 0) (by kernel_rfl) rfl rfl ⟨(blk_cell zb.out 0).trans rfl, (blk_cell zb.out 1).trans rfl, (blk_cell zb.out 2).trans rfl, (blk_cell zb.out 3).trans rfl, (blk_cell zb.out 4).trans rfl, (blk_cell zb.out 5).trans rfl, (blk_cell zb.out 6).trans rfl, (blk_cell zb.out 7).trans rfl, (blk_cell zb.out 8).trans rfl, (blk_cell zb.out 9).trans rfl, ((HB.out.cell (World.block_lt_of_cell? w _ hw848_0)).trans hw848_0)⟩ (fun hHeld => ?_); refine with_tabW gradineref29_Of.tab16 gradineref29_Of.bits16 (fun HT_ HW_ => ?_)
        generalize wr.drew = w72 at zb zd HB z1 hx848_0 hHeld ⊢
        refine pP (i := 0) (N := some 76) (bm 13 1) rfl rfl HT_.out ?_
        refine pP (i := 2) (N := some 78) (bm 13 5) rfl rfl HT_.out ?_
        refine pP (i := 3) (N := some 79) (bm 13 13) rfl rfl HT_.out ?_
        refine pT (i := 1) (N := some 77) (bm 13 15) rfl rfl HT_.out HW_.out hHeld (by rintro w' ⟨s0, s1, s2, s3, s4, s5, s6, s7, s8, s9, s10⟩; go_simp; with_reducible rfl) ?_
        refine pT (i := 4) (N := some 80) (bm 13 31) rfl rfl HT_.out HW_.out hHeld (by rintro w' ⟨s0, s1, s2, s3, s4, s5, s6, s7, s8, s9, s10⟩; go_simp; with_reducible rfl) ?_
        refine one_ (i := 5) (N := some 81) (bm 13 63) rfl rfl (one_of HT_.out (by kernel_rfl)) (by decide) (fun K hK => ?_)
        refine goes_ Try.func17 (by kernel_rfl) rfl #[.int .i64 a0, .agg #[.int .i64 a1_0, .int .i64 a1_1, .int .i64 a1_2, .int .i64 a1_3, .int .i64 a1_4, .int .i64 a1_5, .int .i64 a1_6, .int .i64 a1_7, .bool a1_8, .slice A1_9 l1_9.length c1_9], .slice A848_0 (rd_L1 l2 0).length c848_0] (by rfl) rfl rfl pA ?_
        with_reducible refine (gradineref29_single.calls k3 a0 a1_0 a1_1 a1_2 a1_3 a1_4 a1_5 a1_6 a1_7 a1_8 _ _ l1_9 _ _ (rd_L1 l2 0) z2 z0 zaj _ ?s1 ?s2 ?s3 ?s4 A48.out).mono ?_
        (case s1 => exact sC zaq HB)
        (case s2 => exact zar.out)
        (case s3 => exact sC z1 HB)
        (case s4 => exact z9.out)
        rintro e w73 ⟨v850, v853, rfl, ho0, ho1, hb⟩
        refine ⟨_, rfl, ?_⟩
        have zab := aM (Kd.R_lower ho0 (below_size (qB2 HB zf zh)))
        have zac := aM (Kd.R_lower ho1 (below_size (qB2 HB zf zh)))
        replace zb := bK zb hb
        replace zd := bK zd hb
        replace HB := bS (qB2 HB zf zh) hb
        (try clear hb)
        (try clear ho0)
        (try clear ho1)
        refine hK.out _ _ ⟨(blk_cell zb.out 0).trans rfl, (blk_cell zb.out 1).trans rfl, (blk_cell zb.out 2).trans rfl, (blk_cell zb.out 3).trans rfl, (blk_cell zb.out 4).trans rfl, (blk_cell zb.out 5).trans rfl, (blk_cell zb.out 6).trans rfl, (blk_cell zb.out 7).trans rfl, (blk_cell zb.out 8).trans rfl, (blk_cell zb.out 9).trans rfl, ((HB.out.cell (World.block_lt_of_cell? w _ hw848_0)).trans hw848_0)⟩ (fun hHeld => ?_)
        clear hK K
        refine norm_ (a' := ?_) ?_ ?_
        rotate_left
        ·show Act.put _ (some 81) _ = _
         simp only [Act.put, sP, i64_w, i32_w]
         rfl
        refine pP (i := 6) (N := some 75) (bm 13 127) rfl rfl HT_.out ?_
        refine pP (i := 7) (N := some 82) (bm 13 255) rfl rfl HT_.out ?_
        refine pP (i := 8) (N := some 83) (bm 13 511) rfl rfl HT_.out ?_
        refine pP (i := 9) (N := some 84) (bm 13 1023) rfl rfl HT_.out ?_
        refine pP (i := 10) (N := some 10) (bm 13 2047) rfl rfl HT_.out ?_
        refine pP (i := 11) (N := some 11) (bm 13 4095) rfl rfl HT_.out ?_
        refine pP (i := 12) (N := some 12) (bm 13 8191) rfl rfl HT_.out ?_
        refine done_ (done_of HT_.out (by kernel_rfl)) ?_
        have hnb74 := zi.out
        have hnc74 := za.out
        obtain ⟨hcz75_0, hcz75_1, hcz75_2, hfz75_0, hfz75_1, hfz75_2⟩ := blk3 zd.out
        try go_wp2
        refine bodyPost_ret (results_ct rfl _ _ zc 29 #[.slice none 0 0, .slice none 0 0, .slice none 0 0] (0, 0) _ rfl (by exact P3 zd) Try.underlying29 rfl (by kernel_rfl)) rfl ?_
        exact ⟨_, _, _, pE, pN, pN, pN, qB2 HB zf zh⟩
       rw [if_pos c49] at H
       have za8 : (zaj == 0) = true := beq_iff_eq.mpr c49
       have za9 : (zaj != 0) = false := bne_eq_false_iff_eq.mpr c49
       clear c49
       have H' := aM H
       clear H
       try go_wp2
       replace zb := aM (blk_drew zb.out)
       replace zd := aM (blk_drew zd.out)
       replace HB := aM (below_drew1 HB.out)
       have p848 : 0 ≤ (0 : Int) := (by omega)
       have q848 : 0 < (l2.length : Int) := of_decide_eq_true pD
       obtain ⟨ad848, A848_0, c848_0, e848, hx848_0, hl848_0, hi848_0⟩ := at_L1 HR2.out 0 p848 q848
       have hw848_0 := hx848_0
       (try rw [show ((0 : Int)).toNat = 0 from rfl] at hw848_0)
       (try rw [show 0 * 1 = 0 from rfl] at hw848_0)
       (try rw [Addr.add_zero'] at hw848_0)
       cases e848
       have qi848 : (0 < l2.length) = True := eq_true (by omega)
       (try rw [show ((0 : Int)).toNat = 0 from rfl] at hx848_0)
       (try rw [Addr.add_zero'] at hx848_0)
       replace hx848_0 := (HB.out.cell (World.block_lt_of_cell? w _ hx848_0)).trans hx848_0
       have z1 := aM hi848_0
       have z9 := aM hl848_0
       clear hi848_0 hl848_0
       replace p848 := eq_true p848
       replace q848 := eq_true q848
       refine start_ (n := 13) (S := fun w' => w'.cell? ⟨ze, 0, none⟩ = some (.int .i64 a1_0) ∧ w'.cell? ⟨ze, 1, none⟩ = some (.int .i64 a1_1) ∧ w'.cell? ⟨ze, 2, none⟩ = some (.int .i64 a1_2) ∧ w'.cell? ⟨ze, 3, none⟩ = some (.int .i64 a1_3) ∧ w'.cell? ⟨ze, 4, none⟩ = some (.int .i64 a1_4) ∧ w'.cell? ⟨ze, 5, none⟩ = some (.int .i64 a1_5) ∧ w'.cell? ⟨ze, 6, none⟩ = some (.int .i64 a1_6) ∧ w'.cell? ⟨ze, 7, none⟩ = some (.int .i64 a1_7) ∧ w'.cell? ⟨ze, 8, none⟩ = some (.bool a1_8) ∧ w'.cell? ⟨ze, 9, none⟩ = some (.slice A1_9 l1_9.length c1_9) ∧ w'.cell? ad848 = some (.slice A848_0 (rd_L1 l2 0).length c848_0)) (ds := []) (bm 13 0) (by kernel_rfl) rfl rfl ⟨(blk_cell zb.out 0).trans rfl, (blk_cell zb.out 1).trans rfl, (blk_cell zb.out 2).trans rfl, (blk_cell zb.out 3).trans rfl, (blk_cell zb.out 4).trans rfl, (blk_cell zb.out 5).trans rfl, (blk_cell zb.out 6).trans rfl, (blk_cell zb.out 7).trans rfl, (blk_cell zb.out 8).trans rfl, (blk_cell zb.out 9).trans rfl, ((HB.out.cell (World.block_lt_of_cell? w _ hw848_0)).trans hw848_0)⟩ (fun hHeld => ?_); refine with_tabW gradineref29_Of.tab16 gradineref29_Of.bits16 (fun HT_ HW_ => ?_)
       generalize wr.drew = w50 at zb zd HB z1 hx848_0 hHeld ⊢
       refine pP (i := 0) (N := some 76) (bm 13 1) rfl rfl HT_.out ?_
       refine pP (i := 2) (N := some 78) (bm 13 5) rfl rfl HT_.out ?_
       refine pP (i := 3) (N := some 79) (bm 13 13) rfl rfl HT_.out ?_
       refine pT (i := 1) (N := some 77) (bm 13 15) rfl rfl HT_.out HW_.out hHeld (by rintro w' ⟨s0, s1, s2, s3, s4, s5, s6, s7, s8, s9, s10⟩; go_simp; with_reducible rfl) ?_
       refine pT (i := 4) (N := some 80) (bm 13 31) rfl rfl HT_.out HW_.out hHeld (by rintro w' ⟨s0, s1, s2, s3, s4, s5, s6, s7, s8, s9, s10⟩; go_simp; with_reducible rfl) ?_
       refine one_ (i := 5) (N := some 81) (bm 13 63) rfl rfl (one_of HT_.out (by kernel_rfl)) (by decide) (fun K hK => ?_)
       refine goes_ Try.func17 (by kernel_rfl) rfl #[.int .i64 a0, .agg #[.int .i64 a1_0, .int .i64 a1_1, .int .i64 a1_2, .int .i64 a1_3, .int .i64 a1_4, .int .i64 a1_5, .int .i64 a1_6, .int .i64 a1_7, .bool a1_8, .slice A1_9 l1_9.length c1_9], .slice A848_0 (rd_L1 l2 0).length c848_0] (by rfl) rfl rfl pA ?_
       with_reducible refine (gradineref29_single.calls k3 a0 a1_0 a1_1 a1_2 a1_3 a1_4 a1_5 a1_6 a1_7 a1_8 _ _ l1_9 _ _ (rd_L1 l2 0) z2 z0 zaj _ ?s1 ?s2 ?s3 ?s4 A48.out).mono ?_
       (case s1 => exact sC zaq HB)
       (case s2 => exact zar.out)
       (case s3 => exact sC z1 HB)
       (case s4 => exact z9.out)
       rintro e w51 ⟨v850, v853, rfl, ho0, ho1, hb⟩
       refine ⟨_, rfl, ?_⟩
       have zab := aM (Kd.R_lower ho0 (below_size (qB2 HB zf zh)))
       have zac := aM (Kd.R_lower ho1 (below_size (qB2 HB zf zh)))
       replace zb := bK zb hb
       replace zd := bK zd hb
       replace HB := bS (qB2 HB zf zh) hb
       (try clear hb)
       (try clear ho0)
       (try clear ho1)
       refine hK.out _ _ ⟨(blk_cell zb.out 0).trans rfl, (blk_cell zb.out 1).trans rfl, (blk_cell zb.out 2).trans rfl, (blk_cell zb.out 3).trans rfl, (blk_cell zb.out 4).trans rfl, (blk_cell zb.out 5).trans rfl, (blk_cell zb.out 6).trans rfl, (blk_cell zb.out 7).trans rfl, (blk_cell zb.out 8).trans rfl, (blk_cell zb.out 9).trans rfl, ((HB.out.cell (World.block_lt_of_cell? w _ hw848_0)).trans hw848_0)⟩ (fun hHeld => ?_)
       clear hK K
       refine norm_ (a' := ?_) ?_ ?_
       rotate_left
       ·show Act.put _ (some 81) _ = _
        simp only [Act.put, sP, i64_w, i32_w]
        rfl
       refine pP (i := 6) (N := some 75) (bm 13 127) rfl rfl HT_.out ?_
       refine pP (i := 7) (N := some 82) (bm 13 255) rfl rfl HT_.out ?_
       refine pP (i := 8) (N := some 83) (bm 13 511) rfl rfl HT_.out ?_
       refine pP (i := 9) (N := some 84) (bm 13 1023) rfl rfl HT_.out ?_
       refine pP (i := 10) (N := some 10) (bm 13 2047) rfl rfl HT_.out ?_
       refine pP (i := 11) (N := some 11) (bm 13 4095) rfl rfl HT_.out ?_
       refine pP (i := 12) (N := some 12) (bm 13 8191) rfl rfl HT_.out ?_
       refine done_ (done_of HT_.out (by kernel_rfl)) ?_
       obtain ⟨zad, zae, eo52⟩ := Kd.R_slice zac.out
       subst eo52
       obtain ⟨zaf, zag, eo53⟩ := Kd.R_slice zab.out
       subst eo53
       try go_wp2_with (first | ((with_reducible refine gate_dst (N := 13) rfl ?_); (try (refine gate_guard (by rfl) ?_; dsimp only)); refine box_event ?hg (N := 13) ?hd (cs := #[.slice none 0 0, .slice none 0 0, .slice none 0 0]) (t := 29) ?hr ?_; (case hd => rfl); (case hg => rfl); (case hr => first | (go_simp; done) | (go_simp; rfl)); intro zah hg w54 hbox hb; replace zab := bR zab hb; replace zac := bR zac hb; have zv := aM (hbox); have GW856 := gE (w := w) hg (qB2 HB zf zh); have zai := GW856; replace HB := bS (qB2 HB zf zh) hb; have zw := nL hg zb; have z3 := nG hg zb; replace zb := bK zb hb; have zx := nL hg zd; have z4 := nG hg zd; replace zd := bK zd hb; clear hb hbox hg; have hnb55 := z3.out; have hnc55 := zw.out; have hnb56 := z4.out; have hnc56 := zx.out; obtain ⟨hcz57_0, hcz57_1, hcz57_2, hfz57_0, hfz57_1, hfz57_2⟩ := blk3 zv.out))
       go_loopg [94] k3 (fun kq v94 w' => ∃ (x94_4 : Int) (zj : List Int) (u857001 : Value), v94 = .int .i64 x94_4 ∧ Aside0 (gradineref29_Of.l1 kq (z0.length : Int) x94_4 z2 zj z0 = some (r1, r2, r3, r4)) ∧ Aside0 (kq ≤ k3) ∧ Aside0 (Kd.R (Kd.int .i64) 3 w' w.heap.size (fun k_ => some k_ ≠ (u857001 : Value).ownBlock ∧ some k_ ≠ ((.slice zad z0.length zae) : Value).ownBlock) (.slice zaf z2.length zag) z2) ∧ Aside0 (Kd.R (Kd.int .i64) 3 w' w.heap.size (fun k_ => some k_ ≠ ((.slice zaf z2.length zag) : Value).ownBlock ∧ some k_ ≠ ((.slice zad z0.length zae) : Value).ownBlock) u857001 zj) ∧ Aside0 (Kd.R (Kd.int .i64) 3 w' w.heap.size (fun k_ => some k_ ≠ ((.slice zaf z2.length zag) : Value).ownBlock ∧ some k_ ≠ (u857001 : Value).ownBlock) (.slice zad z0.length zae) z0) ∧ Aside0 (w'.heap[ze]? = some (.cells #[.int .i64 a1_0, .int .i64 a1_1, .int .i64 a1_2, .int .i64 a1_3, .int .i64 a1_4, .int .i64 a1_5, .int .i64 a1_6, .int .i64 a1_7, .bool a1_8, (.slice A1_9 l1_9.length c1_9)] 24 (0, 0))) ∧ Aside0 (w'.heap[zc]? = some (.cells #[(.slice none 0 0), (.slice none 0 0), (.slice none 0 0)] 29 (0, 0))) ∧ Aside0 (w'.heap[zah]? = some (.cells #[(.slice zaf z2.length zag), u857001, (.slice zad z0.length zae)] 29 (0, 0))) ∧ Aside0 (Below w.heap.size w w'))
       case atStart => exact ⟨(0), (([] : List Int)), (.slice none 0 0), (pF), H', ⟨Nat.le_refl _⟩, ⟨by (with_reducible repeat (first | apply rA | apply rN | apply rD)); exact F3 zab zv (fun _ hk => ⟨(by simp [Value.ownBlock]), hk.1⟩)⟩, ⟨pN⟩, ⟨by (with_reducible repeat (first | apply rA | apply rN | apply rD)); exact F3 zac zv (fun _ hk => ⟨hk.1, (by simp [Value.ownBlock])⟩)⟩, ⟨by refine B3 zw ?_; exact zb.out⟩, ⟨by refine B3 zx ?_; exact zd.out⟩, ⟨by exact P3 zv⟩, ⟨qB3 HB zf zh zai⟩⟩
       case round =>
        clear H'
        try clear zax
        try clear c24
        try clear zay
        try clear zaz
        try clear c35
        try clear za3
        try clear za4
        try clear c47b0
        try clear c47b1
        try clear za8
        try clear za9
        try clear hcz57_0 hcz57_1 hcz57_2 hfz57_0 hfz57_1 hfz57_2
        try clear hx848_0
        try clear p848
        try clear q848
        obtain ⟨x94_4, zj, u857001, rfl, HA, HK4, zy, zk, zz, zb, zd, zv, HB⟩ := hrel
        cases gk with
        | zero => exact absurd HA.out (by simp [gradineref29_Of.l1])
        | succ k4 =>
         have H := HA.out
         clear HA
         simp only [gradineref29_Of.l1] at H
         by_cases c58 : x94_4 < (z0.length : Int)
         rotate_left
         ·rw [if_neg c58] at H
          have c58b0 : decide (x94_4 < (z0.length : Int)) = false := decide_eq_false c58
          clear c58
          simp only [Option.some.injEq, Prod.mk.injEq] at H
          obtain ⟨rfl, rfl, rfl, rfl⟩ := H
          have hnb66 := z3.out
          have hnc66 := zw.out
          have hnb67 := z4.out
          have hnc67 := zx.out
          obtain ⟨hcz68_0, hcz68_1, hcz68_2, hfz68_0, hfz68_1, hfz68_2⟩ := blk3 zv.out
          have hnb69 := zi.out
          have hnc69 := za.out
          obtain ⟨hcz70_0, hcz70_1, hcz70_2, hfz70_0, hfz70_1, hfz70_2⟩ := blk3 zd.out
          obtain ⟨Ao71, co71, eo71⟩ := Kd.R_slice zk.out
          subst eo71
          go_wp2
          refine bodyPost_ret (results_ct rfl _ _ zc 29 #[.slice zaf z2.length zag, .slice Ao71 zj.length co71, .slice zad z0.length zae] (0, 0) _ rfl (by exact P3 zd) Try.underlying29 rfl (by kernel_rfl)) rfl ?_
          exact ⟨_, _, _, pE, by (with_reducible repeat (first | apply rA | apply rN | apply rD)); exact F3 zy zd (fun _ hk => ⟨hk.1.1, hk.1.2⟩), by (with_reducible repeat (first | apply rA | apply rN | apply rD)); exact F3 zk zd (fun _ hk => ⟨hk.1.1, hk.1.2⟩), by (with_reducible repeat (first | apply rA | apply rN | apply rD)); exact F3 zz zd (fun _ hk => ⟨hk.1.1, hk.1.2⟩), qB3 HB zf zh zai⟩
         rw [if_pos c58] at H
         have c58b0 : decide (x94_4 < (z0.length : Int)) = true := decide_eq_true c58
         clear c58
         by_cases c59 : zj.length < 17592186044416
         rotate_left
         ·rw [if_neg c59] at H
          exact absurd H (by simp)
         rw [if_pos c59] at H
         have LMc59 := aM c59
         clear c59
         obtain ⟨zap, zat⟩ : ∃ y_ : List Int, y_ = (zj ++ [0]) := ⟨_, rfl⟩
         replace H : (gradineref29_Of.l1 k4 (z0.length : Int) (wrap64 (x94_4 + 1)) z2 zap z0) = some (r1, r2, r3, r4) := pH zat H
         have Ny857 := aM zat
         clear zat
         have H' := aM H
         clear H
         have hnb60 := z3.out
         have hnc60 := zw.out
         have hnb61 := z4.out
         have hnc61 := zx.out
         obtain ⟨hcz62_0, hcz62_1, hcz62_2, hfz62_0, hfz62_1, hfz62_2⟩ := blk3 zv.out
         go_wp2_with (first | ((with_reducible refine gate_builtin (b := .append) (xs := #[.tmp 97, .tmp 98]) rfl ?_); (try (refine gate_guard (by rfl) ?_; dsimp only)); at_builtin; refine Kd.R_append (Kd.int .i64) (w0 := w) w.heap.size rfl (.tmp 97) (.tmp 98) 22 3 (.int .i64 0) 8 rfl Try.underlying22 info3 rfl (by decide) (by omega) u857001 zj 0 [.int .i64 0] (fun k_ => some k_ ≠ (.slice zaf z2.length zag : Value).ownBlock ∧ some k_ ≠ (.slice zad z0.length zae : Value).ownBlock) (fun _ => False) rfl rfl ?aP (fun _ hk => hk.elim) ?aF ?aO ?aB ?aS ?aL ?_; (case aP => exact rfl); (case aB => exact (qB3 HB zf zh zai)); (case aF => exact (fun k_ hk => ⟨Kd.fresh' (Kd.R_lt (pR zy.out)) k_ hk, Kd.fresh' (Kd.R_lt (pR zz.out)) k_ hk⟩)); (case aO => exact (pR zk.out)); (case aS => exact (below_size (qB3 HB zf zh zai))); (case aL => have := LMc59.out; omega); intro v858 w63 ho hb hg hat; rw [← Ny857.out] at ho; replace zy := aM (Kd.R_after (ok := (fun k_ => some k_ ≠ (.slice zad z0.length zae : Value).ownBlock)) (by (with_reducible repeat (first | apply rA | apply rN | apply rD)); exact Kd.R_mono zy.out (fun _ hk => ⟨hk.2, hk.1⟩)) hg hat); replace zz := aM (Kd.R_after (ok := (fun k_ => some k_ ≠ (.slice zaf z2.length zag : Value).ownBlock)) (pR zz.out) hg hat); replace zb := aM (blk_grown (g := ze) (pK zb.out) hg (Kd.R_ne zk.out zb.out (by decide))); replace zd := aM (blk_grown (g := zc) (pK zd.out) hg (Kd.R_ne zk.out zd.out (by decide))); replace zv := aM (blk_grown (g := zah) (pK zv.out) hg (Kd.R_ne zk.out zv.out (by decide))); replace HB := aM (hb); have zba := aM (ho); clear zk; clear ho hb hg hat; obtain ⟨zav, zaw, eo64⟩ := Kd.R_slice zba.out; subst eo64; obtain ⟨hcz65_0, hcz65_1, hcz65_2, hfz65_0, hfz65_1, hfz65_2⟩ := blk3 zv.out))
         go_roundg k4
         case measure => have := HJ3.out; have := zau.out; have := HK3.out; have := HK4.out; omega
         case rel => exact ⟨(wrap64 (x94_4 + 1)), (zap), (.slice zav zap.length zaw), (pF), H', ⟨by have := HJ3.out; have := zau.out; have := HK3.out; have := HK4.out; omega⟩, ⟨by (with_reducible repeat (first | apply rA | apply rN | apply rD)); exact Kd.R_mono (Kd.R_far (p := ⟨zah, 1, none⟩) (Kd.R_types zy.out zv.out (by decide)) (fun _ hk => hk.2) (.slice zav zap.length zaw)) (fun _ hk => ⟨hk.1.2, hk.1.1⟩)⟩, ⟨by (with_reducible repeat (first | apply rA | apply rN | apply rD)); exact Kd.R_mono (Kd.R_far (p := ⟨zah, 1, none⟩) (Kd.R_types zba.out zv.out (by decide)) (fun _ hk => hk.2) (.slice zav zap.length zaw)) (fun _ hk => ⟨hk.1.1, hk.1.2⟩)⟩, ⟨by (with_reducible repeat (first | apply rA | apply rN | apply rD)); exact Kd.R_mono (Kd.R_far (p := ⟨zah, 1, none⟩) (Kd.R_types zz.out zv.out (by decide)) (fun _ hk => hk.2) (.slice zav zap.length zaw)) (fun _ hk => ⟨hk.1.1, hk.1.2⟩)⟩, ⟨by (with_reducible repeat (first | apply bN | apply bD | apply bA)); refine blk_far ?_ zw.out _; (with_reducible repeat (first | apply bN | apply bD | apply bA)); exact zb.out⟩, ⟨by (with_reducible repeat (first | apply bN | apply bD | apply bA)); refine blk_far ?_ zx.out _; (with_reducible repeat (first | apply bN | apply bD | apply bA)); exact zd.out⟩, ⟨by (with_reducible repeat (first | apply bN | apply bD | apply bA)); refine blk_put (cs := #[.slice zaf z2.length zag, u857001, .slice zad z0.length zae]) ?_ 1 _ rfl; (with_reducible repeat (first | apply bN | apply bD | apply bA)); exact zv.out⟩, ⟨qB3 HB zf zh zai⟩⟩
end Go.Proofs.Yticcamciaohepaa.Q
