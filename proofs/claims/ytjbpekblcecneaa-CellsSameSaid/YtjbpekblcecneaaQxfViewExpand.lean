-- By wip/gprint.py (this session's), out of the kit's print.py.
import Derived.Test.YtjbpekblcecneaaQx0
import Derived.Test.YtjbpekblcecneaaQxfLowViewRight
import Derived.Test.YtjbpekblcecneaaQxfShapeCheck
import Derived.Test.YtjbpekblcecneaaQxfSlicesCloneIntInt
import Derived.Test.YtjbpekblcecneaaQxfSpreadFits
namespace Go.Proofs.Ytjbpekblcecneaa.Q
open Go.RowKit Go.Proofs.YtjbpekblcecneaaW.PrintWords Go.Proofs.YtjbpekblcecneaaW.PrintLast Go.Proofs.YtjbpekblcecneaaW.PrintMore
attribute [local go_sem] max2_int min2_int max_two min_two max_three min_three max_four min_four   -- for this text's walks alone
set_option linter.unusedVariables false
set_option linter.unusedSimpArgs false

/-! ### view_Expand: function 36 -/
def view_Expand.l0 : Nat → Int → List Int → Int → Int → Int → List Int → List Int → Int → List Int → List Int → Option (Int × List Int × List Int × Int)
 | 0, _, _, _, _, _, _, _, _, _, _ => none
 | k + 1, x8, x42, x43, x44, zag, zah, z3, z9, zaa, z4 => if x44 < x43 then (if 0 ≤ x44 then (if x44 < (x42.length : Int) then (if (rd x42 x44) > 1 then (if x44 < (z3.length : Int) then (if 0 ≤ (wrap64 (x8 + x44)) then (if (wrap64 (x8 + x44)) < (z4.length : Int) then (view_Expand.l0 k x8 x42 x43 (wrap64 (x44 + 1)) zag zah z3 z9 zaa (z4.set ((wrap64 (x8 + x44)) : Int).toNat (rd z3 x44))) else (none)) else (none)) else (none)) else (view_Expand.l0 k x8 x42 x43 (wrap64 (x44 + 1)) zag zah z3 z9 zaa z4)) else (none)) else (none)) else (some (z9, zaa, z4, 0))
def view_Expand.f (k : Nat) (a0_0 : Int) (l0_1 : List Int) (l0_2 : List Int) (l1 : List Int) : Option (Int × List Int × List Int × Int) := (view_right.f k a0_0 l0_1 l0_2).bind fun zaj => (if zaj = true then ((shape_Check.f l1).bind fun z0 => (if z0 = 0 then ((spread_Fits.f k l0_1 l1).bind fun zak => (if zak = true then ((slices_Clone_int_int.f l1).bind fun zw => (if 0 ≤ (l1.length : Int) then (if ((l1.length : Int) : Int).toNat ≤ 35184372088832 then (view_Expand.l0 k (wrap64 ((l1.length : Int) - (l0_1.length : Int))) l0_1 (l0_1.length : Int) 0 a0_0 l0_1 l0_2 a0_0 zw (List.replicate ((l1.length : Int) : Int).toNat 0)) else (none)) else (none))) else (some (0, ([] : List Int), ([] : List Int), 8)))) else (some (0, ([] : List Int), ([] : List Int), z0)))) else (some (0, ([] : List Int), ([] : List Int), 1)))
def view_Expand.T8 : Bool × List (List Nat × List Nat) := (true, [([], []), ([0], [0]), ([], []), ([2], [2]), ([], []), ([4], [4]), ([5, 5], [5]), ([1, 3, 6], [1, 3, 6]), ([], []), ([8, 7, 3, 0, 1, 2, 3, 4, 5, 6, 7, 8], [7, 8])])
def view_Expand.B8 : List Nat := [0, 1, 0, 4, 0, 16, 48, 127, 0, 511]
theorem view_Expand.tab8 : rtab .any (opsOf Try.f36 8) = view_Expand.T8 := by kernel_rfl
theorem view_Expand.bits8 : waitsOk view_Expand.T8.2 view_Expand.B8 = true := by kernel_rfl
def view_Expand.T14 : Bool × List (List Nat × List Nat) := (true, [([], []), ([0], [0]), ([], []), ([], []), ([2, 3], [2, 3]), ([], []), ([5], [5]), ([], []), ([6, 7], [6, 7]), ([8], [8]), ([1, 4, 0, 1, 2, 3, 4, 5, 6, 7, 8, 9], [1, 4]), ([10, 9, 0, 1, 2, 3, 4, 5, 6, 7, 8, 9], [9, 10])])
def view_Expand.B14 : List Nat := [0, 1, 0, 0, 12, 0, 32, 0, 224, 480, 1023, 2047]
theorem view_Expand.tab14 : rtab .any (opsOf Try.f36 14) = view_Expand.T14 := by kernel_rfl
theorem view_Expand.bits14 : waitsOk view_Expand.T14.2 view_Expand.B14 = true := by kernel_rfl
set_option maxHeartbeats 8000000 in
set_option maxRecDepth 100000 in
theorem view_Expand.calls (k : Nat) (a0_0 : Int) (A0_1 : Option Addr) (c0_1 : Nat) (l0_1 : List Int) (A0_2 : Option Addr) (c0_2 : Nat) (l0_2 : List Int) (A1 : Option Addr) (c1 : Nat) (l1 : List Int) (r1 : Int) (r2 : List Int) (r3 : List Int) (r4 : Int) (w : World) (hr0_1 : Kd.C (Kd.int .i64) w A0_1 l0_1.length l0_1) (hc0_1 : l0_1.length ≤ c0_1) (hr0_2 : Kd.C (Kd.int .i64) w A0_2 l0_2.length l0_2) (hc0_2 : l0_2.length ≤ c0_2) (hr1 : Kd.C (Kd.int .i64) w A1 l1.length l1) (hc1 : l1.length ≤ c1) (h : view_Expand.f k a0_0 l0_1 l0_2 l1 = some (r1, r2, r3, r4)) :
  Calls Try.prog 36 #[.agg #[.int .i64 a0_0, .slice A0_1 l0_1.length c0_1, .slice A0_2 l0_2.length c0_2], .slice A1 l1.length c1] w fun e w' => ∃ v1_ v2_ : Value, e = .returned (.tuple #[.agg #[.int .i64 r1, v1_, v2_], .int .i64 r4]) ∧ Kd.R (Kd.int .i64) 3 w' w.heap.size (fun k_ => some k_ ≠ (v2_ : Value).ownBlock) v1_ r2 ∧ Kd.R (Kd.int .i64) 3 w' w.heap.size (fun k_ => some k_ ≠ (v1_ : Value).ownBlock) v2_ r3 ∧ Below w.heap.size w w' := by
 have hu24 := Try.underlying24
 have z1 := aM hr0_1
 have z8 := aM hc0_1
 clear hr0_1 hc0_1
 have zac := aM hr0_2
 have zai := aM hc0_2
 clear hr0_2 hc0_2
 have HR1 := aM hr1
 have HC1 := aM hc1
 clear hr1 hc1
 have HB := aM (Below.refl w.heap.size w)
 have H : ((view_right.f k a0_0 l0_1 l0_2).bind fun zaj => (if zaj = true then ((shape_Check.f l1).bind fun z0 => (if z0 = 0 then ((spread_Fits.f k l0_1 l1).bind fun zak => (if zak = true then ((slices_Clone_int_int.f l1).bind fun zw => (if 0 ≤ (l1.length : Int) then (if ((l1.length : Int) : Int).toNat ≤ 35184372088832 then (view_Expand.l0 k (wrap64 ((l1.length : Int) - (l0_1.length : Int))) l0_1 (l0_1.length : Int) 0 a0_0 l0_1 l0_2 a0_0 zw (List.replicate ((l1.length : Int) : Int).toNat 0)) else (none)) else (none))) else (some (0, ([] : List Int), ([] : List Int), 8)))) else (some (0, ([] : List Int), ([] : List Int), z0)))) else (some (0, ([] : List Int), ([] : List Int), 1)))) = some (r1, r2, r3, r4) := h
 clear h
 replace H := Option.bind_eq_some_iff.mp H
 obtain ⟨zaj, A30, H⟩ := H
 try dsimp only at H
 have A3 := aM A30
 clear A30
 by_cases c4 : zaj = true
 rotate_left
 ·replace c4 := Bool.eq_false_iff.mpr c4
  subst c4
  rw [if_neg (show ¬ (false = true) by decide)] at H
  simp only [Option.some.injEq, Prod.mk.injEq] at H
  obtain ⟨rfl, rfl, rfl, rfl⟩ := H
  go_enter Try.func36, Try.ntmps36
  go_wp2_with (first | ((with_reducible refine gate_dst (N := 2) rfl ?_); refine box_event ?hg (N := 2) ?hd (cs := #[.int .i64 a0_0, .slice A0_1 l0_1.length c0_1, .slice A0_2 l0_2.length c0_2]) (t := 24) ?hr ?_; (case hd => rfl); (case hg => rfl); (case hr => first | (go_simp; done) | (go_simp; rfl)); intro zc hg w66 hbox hb; have za := aM (hbox); have z5 := gE (w := w) hg (qB HB); have ze := z5; replace HB := bS (qB HB) hb; clear hb hbox hg) | ((with_reducible refine gate_dst (N := 4) rfl ?_); refine box_event ?hg (N := 4) ?hd (cs := #[.int .i64 0, .slice none 0 0, .slice none 0 0]) (t := 24) ?hr ?_; (case hd => rfl); (case hg => rfl); (case hr => first | (go_simp; done) | (go_simp; rfl)); intro zl hg w67 hbox hb; have zb := aM (hbox); have z6 := gE (w := w) hg (qB1 HB ze); have zg := z6; replace HB := bS (qB1 HB ze) hb; have zr := nL hg za; have zs := nG hg za; replace za := bK za hb; clear hb hbox hg; have hnb68 := zr.out; have hnc68 := zs.out; obtain ⟨hcz69_0, hcz69_1, hcz69_2, hfz69_0, hfz69_1, hfz69_2⟩ := blk3 za.out) | ((with_reducible refine gate_callee (f := 39) rfl ?_); refine goesL_ (some 12) rfl rfl Try.func39 (by kernel_rfl) rfl #[.agg #[.int .i64 a0_0, .slice A0_1 l0_1.length c0_1, .slice A0_2 l0_2.length c0_2]] rfl pA ?_; (with_reducible refine (view_right.calls k a0_0 _ _ l0_1 _ _ l0_2 false _ ?s1 ?s2 ?s3 ?s4 A3.out).mono ?_); (case s1 => exact sC z1 HB); (case s2 => exact z8.out); (case s3 => exact sC zac HB); (case s4 => exact zai.out); rintro e w70 ⟨rfl, hb⟩; refine ⟨_, rfl, ?_⟩; replace za := bK za hb; replace zb := bK zb hb; replace HB := bS (qB2 HB ze zg) hb; (try clear hb); (try clear hk); (try clear hi); obtain ⟨hcz71_0, hcz71_1, hcz71_2, hfz71_0, hfz71_1, hfz71_2⟩ := blk3 zb.out))
  refine bodyPost_ret (results_ct rfl _ _ zl 24 #[.int .i64 0, .slice none 0 0, .slice none 0 0] (0, 0) _ rfl (by exact P3 zb) Try.underlying24 rfl (by kernel_rfl)) rfl ?_
  exact ⟨_, _, pE, pN, pN, qB2 HB ze zg⟩

 subst c4
 rw [if_pos rfl] at H
 replace H := Option.bind_eq_some_iff.mp H
 obtain ⟨z0, A50, H⟩ := H
 try dsimp only at H
 have A5 := aM A50
 clear A50
 by_cases c6 : z0 = 0
 rotate_left
 ·rw [if_neg c6] at H
  have c6b0 : (z0 == 0) = false := beq_eq_false_iff_ne.mpr c6
  have c6b1 : (z0 != 0) = true := bne_iff_ne.mpr c6
  simp only [Option.some.injEq, Prod.mk.injEq] at H
  obtain ⟨rfl, rfl, rfl, rfl⟩ := H
  go_enter Try.func36, Try.ntmps36
  go_wp2_with (first | ((with_reducible refine gate_dst (N := 2) rfl ?_); refine box_event ?hg (N := 2) ?hd (cs := #[.int .i64 a0_0, .slice A0_1 l0_1.length c0_1, .slice A0_2 l0_2.length c0_2]) (t := 24) ?hr ?_; (case hd => rfl); (case hg => rfl); (case hr => first | (go_simp; done) | (go_simp; rfl)); intro zc hg w60 hbox hb; have za := aM (hbox); have z5 := gE (w := w) hg (qB HB); have ze := z5; replace HB := bS (qB HB) hb; clear hb hbox hg) | ((with_reducible refine gate_dst (N := 4) rfl ?_); refine box_event ?hg (N := 4) ?hd (cs := #[.int .i64 0, .slice none 0 0, .slice none 0 0]) (t := 24) ?hr ?_; (case hd => rfl); (case hg => rfl); (case hr => first | (go_simp; done) | (go_simp; rfl)); intro zl hg w61 hbox hb; have zb := aM (hbox); have z6 := gE (w := w) hg (qB1 HB ze); have zg := z6; replace HB := bS (qB1 HB ze) hb; have zr := nL hg za; have zs := nG hg za; replace za := bK za hb; clear hb hbox hg; have hnb62 := zr.out; have hnc62 := zs.out; obtain ⟨hcz63_0, hcz63_1, hcz63_2, hfz63_0, hfz63_1, hfz63_2⟩ := blk3 za.out) | ((with_reducible refine gate_callee (f := 39) rfl ?_); refine goesL_ (some 12) rfl rfl Try.func39 (by kernel_rfl) rfl #[.agg #[.int .i64 a0_0, .slice A0_1 l0_1.length c0_1, .slice A0_2 l0_2.length c0_2]] rfl pA ?_; (with_reducible refine (view_right.calls k a0_0 _ _ l0_1 _ _ l0_2 true _ ?s1 ?s2 ?s3 ?s4 A3.out).mono ?_); (case s1 => exact sC z1 HB); (case s2 => exact z8.out); (case s3 => exact sC zac HB); (case s4 => exact zai.out); rintro e w64 ⟨rfl, hb⟩; refine ⟨_, rfl, ?_⟩; replace za := bK za hb; replace zb := bK zb hb; replace HB := bS (qB2 HB ze zg) hb; (try clear hb); (try clear hk); (try clear hi)) | ((with_reducible refine gate_callee (f := 41) rfl ?_); refine goesL_ (some 16) rfl rfl Try.func41 (by kernel_rfl) rfl #[.slice A1 l1.length c1] rfl pA ?_; (with_reducible refine (shape_Check.calls _ _ l1 z0 _ ?s1 ?s2 A5.out).mono ?_); (case s1 => exact sC HR1 HB); (case s2 => exact HC1.out); rintro e w' ⟨rfl, ⟨nd, rfl⟩⟩; refine ⟨_, rfl, ?_⟩; (try (rw [drewN_self w64]; generalize hq_ : World.drewN w64 _ = w64; have n0_ : Aside0 (w64.heap[zc]? = some (.cells #[.int .i64 a0_0, .slice A0_1 l0_1.length c0_1, .slice A0_2 l0_2.length c0_2] 24 (0, 0))) := ⟨by rw [← hq_]; exact (pK za.out)⟩; have n1_ : Aside0 (w64.heap[zl]? = some (.cells #[.int .i64 0, .slice none 0 0, .slice none 0 0] 24 (0, 0))) := ⟨by rw [← hq_]; exact (pK zb.out)⟩; have n2_ : Aside0 (Below w.heap.size w w64) := ⟨by rw [← hq_]; exact (qB2 HB ze zg)⟩; clear za zb HB hq_; have za := n0_; have zb := n1_; have HB := n2_; clear n0_ n1_ n2_)); obtain ⟨hcz65_0, hcz65_1, hcz65_2, hfz65_0, hfz65_1, hfz65_2⟩ := blk3 zb.out))
  refine bodyPost_ret (results_ct rfl _ _ zl 24 #[.int .i64 0, .slice none 0 0, .slice none 0 0] (0, 0) _ rfl (by exact P3 zb) Try.underlying24 rfl (by kernel_rfl)) rfl ?_
  exact ⟨_, _, pE, pN, pN, qB2 HB ze zg⟩
 rw [if_pos c6] at H
 have c6b0 : (z0 == 0) = true := beq_iff_eq.mpr c6
 have c6b1 : (z0 != 0) = false := bne_eq_false_iff_eq.mpr c6
 clear c6
 replace H := Option.bind_eq_some_iff.mp H
 obtain ⟨zak, A70, H⟩ := H
 try dsimp only at H
 have A7 := aM A70
 clear A70
 by_cases c8 : zak = true
 rotate_left
 ·replace c8 := Bool.eq_false_iff.mpr c8
  subst c8
  rw [if_neg (show ¬ (false = true) by decide)] at H
  simp only [Option.some.injEq, Prod.mk.injEq] at H
  obtain ⟨rfl, rfl, rfl, rfl⟩ := H
  go_enter Try.func36, Try.ntmps36
  go_wp2_with (first | ((with_reducible refine gate_dst (N := 2) rfl ?_); refine box_event ?hg (N := 2) ?hd (cs := #[.int .i64 a0_0, .slice A0_1 l0_1.length c0_1, .slice A0_2 l0_2.length c0_2]) (t := 24) ?hr ?_; (case hd => rfl); (case hg => rfl); (case hr => first | (go_simp; done) | (go_simp; rfl)); intro zc hg w52 hbox hb; have za := aM (hbox); have z5 := gE (w := w) hg (qB HB); have ze := z5; replace HB := bS (qB HB) hb; clear hb hbox hg) | ((with_reducible refine gate_dst (N := 4) rfl ?_); refine box_event ?hg (N := 4) ?hd (cs := #[.int .i64 0, .slice none 0 0, .slice none 0 0]) (t := 24) ?hr ?_; (case hd => rfl); (case hg => rfl); (case hr => first | (go_simp; done) | (go_simp; rfl)); intro zl hg w53 hbox hb; have zb := aM (hbox); have z6 := gE (w := w) hg (qB1 HB ze); have zg := z6; replace HB := bS (qB1 HB ze) hb; have zr := nL hg za; have zs := nG hg za; replace za := bK za hb; clear hb hbox hg; have hnb54 := zr.out; have hnc54 := zs.out; obtain ⟨hcz55_0, hcz55_1, hcz55_2, hfz55_0, hfz55_1, hfz55_2⟩ := blk3 za.out) | ((with_reducible refine gate_callee (f := 39) rfl ?_); refine goesL_ (some 12) rfl rfl Try.func39 (by kernel_rfl) rfl #[.agg #[.int .i64 a0_0, .slice A0_1 l0_1.length c0_1, .slice A0_2 l0_2.length c0_2]] rfl pA ?_; (with_reducible refine (view_right.calls k a0_0 _ _ l0_1 _ _ l0_2 true _ ?s1 ?s2 ?s3 ?s4 A3.out).mono ?_); (case s1 => exact sC z1 HB); (case s2 => exact z8.out); (case s3 => exact sC zac HB); (case s4 => exact zai.out); rintro e w56 ⟨rfl, hb⟩; refine ⟨_, rfl, ?_⟩; replace za := bK za hb; replace zb := bK zb hb; replace HB := bS (qB2 HB ze zg) hb; (try clear hb); (try clear hk); (try clear hi)) | ((with_reducible refine gate_callee (f := 41) rfl ?_); refine goesL_ (some 16) rfl rfl Try.func41 (by kernel_rfl) rfl #[.slice A1 l1.length c1] rfl pA ?_; (with_reducible refine (shape_Check.calls _ _ l1 z0 _ ?s1 ?s2 A5.out).mono ?_); (case s1 => exact sC HR1 HB); (case s2 => exact HC1.out); rintro e w' ⟨rfl, ⟨nd, rfl⟩⟩; refine ⟨_, rfl, ?_⟩; (try (rw [drewN_self w56]; generalize hq_ : World.drewN w56 _ = w56; have n0_ : Aside0 (w56.heap[zc]? = some (.cells #[.int .i64 a0_0, .slice A0_1 l0_1.length c0_1, .slice A0_2 l0_2.length c0_2] 24 (0, 0))) := ⟨by rw [← hq_]; exact (pK za.out)⟩; have n1_ : Aside0 (w56.heap[zl]? = some (.cells #[.int .i64 0, .slice none 0 0, .slice none 0 0] 24 (0, 0))) := ⟨by rw [← hq_]; exact (pK zb.out)⟩; have n2_ : Aside0 (Below w.heap.size w w56) := ⟨by rw [← hq_]; exact (qB2 HB ze zg)⟩; clear za zb HB hq_; have za := n0_; have zb := n1_; have HB := n2_; clear n0_ n1_ n2_)); obtain ⟨hcz57_0, hcz57_1, hcz57_2, hfz57_0, hfz57_1, hfz57_2⟩ := blk3 za.out) | ((with_reducible refine gate_callee (f := 56) rfl ?_); refine goesL_ (some 24) rfl rfl Try.func56 (by kernel_rfl) rfl #[.slice A0_1 l0_1.length c0_1, .slice A1 l1.length c1] rfl pA ?_; (with_reducible refine (spread_Fits.calls k _ _ l0_1 _ _ l1 false _ ?s1 ?s2 ?s3 ?s4 A7.out).mono ?_); (case s1 => exact sC z1 HB); (case s2 => exact z8.out); (case s3 => exact sC HR1 HB); (case s4 => exact HC1.out); rintro e w58 ⟨rfl, hb⟩; refine ⟨_, rfl, ?_⟩; replace za := bK za hb; replace zb := bK zb hb; replace HB := bS (qB2 HB ze zg) hb; (try clear hb); (try clear hk); (try clear hi); obtain ⟨hcz59_0, hcz59_1, hcz59_2, hfz59_0, hfz59_1, hfz59_2⟩ := blk3 zb.out))
  refine bodyPost_ret (results_ct rfl _ _ zl 24 #[.int .i64 0, .slice none 0 0, .slice none 0 0] (0, 0) _ rfl (by exact P3 zb) Try.underlying24 rfl (by kernel_rfl)) rfl ?_
  exact ⟨_, _, pE, pN, pN, qB2 HB ze zg⟩
 subst c8
 rw [if_pos rfl] at H
 replace H := Option.bind_eq_some_iff.mp H
 obtain ⟨zw, A90, H⟩ := H
 try dsimp only at H
 have A9 := aM A90
 clear A90
 by_cases c10 : 0 ≤ (l1.length : Int)
 rotate_left
 ·rw [if_neg c10] at H
  exact absurd H (by simp)
 rw [if_pos c10] at H
 have c10b0 := eq_true c10
 have c10b1 : decide (0 ≤ (l1.length : Int)) = true := decide_eq_true c10
 clear c10
 by_cases c11 : ((l1.length : Int) : Int).toNat ≤ 35184372088832
 rotate_left
 ·rw [if_neg c11] at H
  exact absurd H (by simp)
 rw [if_pos c11] at H
 have c11b0 := eq_true c11
 have c11b1 : decide (((l1.length : Int) : Int).toNat ≤ 35184372088832) = true := decide_eq_true c11
 clear c11
 obtain ⟨zx, zal⟩ : ∃ y_ : List Int, y_ = (List.replicate ((l1.length : Int) : Int).toNat 0) := ⟨_, rfl⟩
 replace H : (view_Expand.l0 k (wrap64 ((l1.length : Int) - (l0_1.length : Int))) l0_1 (l0_1.length : Int) 0 a0_0 l0_1 l0_2 a0_0 zw zx) = some (r1, r2, r3, r4) := pH zal H
 have z2 := aM zal
 clear zal
 have H' := aM H
 clear H
 go_enter Try.func36, Try.ntmps36
 try go_wp2_with (first | ((with_reducible refine gate_dst (N := 2) rfl ?_); refine box_event ?hg (N := 2) ?hd (cs := #[.int .i64 a0_0, .slice A0_1 l0_1.length c0_1, .slice A0_2 l0_2.length c0_2]) (t := 24) ?hr ?_; (case hd => rfl); (case hg => rfl); (case hr => first | (go_simp; done) | (go_simp; rfl)); intro zc hg w12 hbox hb; have za := aM (hbox); have z5 := gE (w := w) hg (qB HB); have ze := z5; replace HB := bS (qB HB) hb; clear hb hbox hg) | ((with_reducible refine gate_dst (N := 4) rfl ?_); refine box_event ?hg (N := 4) ?hd (cs := #[.int .i64 0, .slice none 0 0, .slice none 0 0]) (t := 24) ?hr ?_; (case hd => rfl); (case hg => rfl); (case hr => first | (go_simp; done) | (go_simp; rfl)); intro zl hg w13 hbox hb; have zb := aM (hbox); have z6 := gE (w := w) hg (qB1 HB ze); have zg := z6; replace HB := bS (qB1 HB ze) hb; have zr := nL hg za; have zs := nG hg za; replace za := bK za hb; clear hb hbox hg; have hnb14 := zr.out; have hnc14 := zs.out; obtain ⟨hcz15_0, hcz15_1, hcz15_2, hfz15_0, hfz15_1, hfz15_2⟩ := blk3 za.out) | ((with_reducible refine gate_callee (f := 39) rfl ?_); refine goesL_ (some 12) rfl rfl Try.func39 (by kernel_rfl) rfl #[.agg #[.int .i64 a0_0, .slice A0_1 l0_1.length c0_1, .slice A0_2 l0_2.length c0_2]] rfl pA ?_; (with_reducible refine (view_right.calls k a0_0 _ _ l0_1 _ _ l0_2 true _ ?s1 ?s2 ?s3 ?s4 A3.out).mono ?_); (case s1 => exact sC z1 HB); (case s2 => exact z8.out); (case s3 => exact sC zac HB); (case s4 => exact zai.out); rintro e w16 ⟨rfl, hb⟩; refine ⟨_, rfl, ?_⟩; replace za := bK za hb; replace zb := bK zb hb; replace HB := bS (qB2 HB ze zg) hb; (try clear hb); (try clear hk); (try clear hi)) | ((with_reducible refine gate_callee (f := 41) rfl ?_); refine goesL_ (some 16) rfl rfl Try.func41 (by kernel_rfl) rfl #[.slice A1 l1.length c1] rfl pA ?_; (with_reducible refine (shape_Check.calls _ _ l1 z0 _ ?s1 ?s2 A5.out).mono ?_); (case s1 => exact sC HR1 HB); (case s2 => exact HC1.out); rintro e w' ⟨rfl, ⟨nd, rfl⟩⟩; refine ⟨_, rfl, ?_⟩; (try (rw [drewN_self w16]; generalize hq_ : World.drewN w16 _ = w16; have n0_ : Aside0 (w16.heap[zc]? = some (.cells #[.int .i64 a0_0, .slice A0_1 l0_1.length c0_1, .slice A0_2 l0_2.length c0_2] 24 (0, 0))) := ⟨by rw [← hq_]; exact (pK za.out)⟩; have n1_ : Aside0 (w16.heap[zl]? = some (.cells #[.int .i64 0, .slice none 0 0, .slice none 0 0] 24 (0, 0))) := ⟨by rw [← hq_]; exact (pK zb.out)⟩; have n2_ : Aside0 (Below w.heap.size w w16) := ⟨by rw [← hq_]; exact (qB2 HB ze zg)⟩; clear za zb HB hq_; have za := n0_; have zb := n1_; have HB := n2_; clear n0_ n1_ n2_)); obtain ⟨hcz17_0, hcz17_1, hcz17_2, hfz17_0, hfz17_1, hfz17_2⟩ := blk3 za.out) | ((with_reducible refine gate_callee (f := 56) rfl ?_); refine goesL_ (some 24) rfl rfl Try.func56 (by kernel_rfl) rfl #[.slice A0_1 l0_1.length c0_1, .slice A1 l1.length c1] rfl pA ?_; (with_reducible refine (spread_Fits.calls k _ _ l0_1 _ _ l1 true _ ?s1 ?s2 ?s3 ?s4 A7.out).mono ?_); (case s1 => exact sC z1 HB); (case s2 => exact z8.out); (case s3 => exact sC HR1 HB); (case s4 => exact HC1.out); rintro e w18 ⟨rfl, hb⟩; refine ⟨_, rfl, ?_⟩; replace za := bK za hb; replace zb := bK zb hb; replace HB := bS (qB2 HB ze zg) hb; (try clear hb); (try clear hk); (try clear hi)))
 replace za := aM (blk_drew za.out)
 replace zb := aM (blk_drew zb.out)
 replace HB := aM (below_drew1 HB.out)
 refine start_ (n := 10) (S := fun w' => w'.cell? ⟨zc, 0, none⟩ = some (.int .i64 a0_0) ∧ w'.cell? ⟨zc, 1, none⟩ = some (.slice A0_1 l0_1.length c0_1) ∧ w'.cell? ⟨zc, 2, none⟩ = some (.slice A0_2 l0_2.length c0_2)) (ds := []) (bm 10 0) (by kernel_rfl) rfl rfl (h3 za) (fun hHeld => ?_); refine with_tabW view_Expand.tab8 view_Expand.bits8 (fun HT_ HW_ => ?_)
 generalize w18.drew = w19 at za zb HB hHeld ⊢
 refine pP (i := 0) (N := some 27) (bm 10 1) rfl rfl HT_.out ?_
 refine pP (i := 2) (N := some 29) (bm 10 5) rfl rfl HT_.out ?_
 refine pP (i := 4) (N := some 31) (bm 10 21) rfl rfl HT_.out ?_
 refine pP (i := 5) (N := some 32) (bm 10 53) rfl rfl HT_.out ?_
 refine pT (i := 1) (N := some 28) (bm 10 55) rfl rfl HT_.out HW_.out hHeld (by rintro w' ⟨s0, s1, s2⟩; go_simp; with_reducible rfl) ?_
 refine join_ (σ := Value × Value × Nat) 1 (bm 10 511) (fun s_ => [(30, s_.1), (33, s_.2.1), (7, .pointer (some ⟨s_.2.2, 0, none⟩)), (34, .agg #[.int .i64 a0_0, s_.1, s_.2.1])]) (fun s_ w' => (w'.cell? ⟨zc, 0, none⟩ = some (.int .i64 a0_0) ∧ w'.cell? ⟨zc, 1, none⟩ = some (.slice A0_1 l0_1.length c0_1) ∧ w'.cell? ⟨zc, 2, none⟩ = some (.slice A0_2 l0_2.length c0_2)) ∧ (Kd.R (Kd.int .i64) 3 w' w.heap.size (fun k_ => some k_ ≠ (s_.2.1 : Value).ownBlock) s_.1 zw) ∧ (Kd.R (Kd.int .i64) 3 w' w.heap.size (fun k_ => some k_ ≠ (s_.1 : Value).ownBlock) s_.2.1 zx) ∧ (w'.heap[zc]? = some (.cells #[.int .i64 a0_0, .slice A0_1 l0_1.length c0_1, .slice A0_2 l0_2.length c0_2] 24 (0, 0))) ∧ (w'.heap[zl]? = some (.cells #[.int .i64 0, .slice none 0 0, .slice none 0 0] 24 (0, 0))) ∧ (w'.heap[s_.2.2]? = some (.cells #[.int .i64 0, .slice none 0 0, .slice none 0 0] 24 (0, 0))) ∧ (w.heap.size ≤ s_.2.2) ∧ (w.heap.size ≤ s_.2.2) ∧ (zc ≠ s_.2.2) ∧ (s_.2.2 ≠ zc) ∧ (zl ≠ s_.2.2) ∧ (s_.2.2 ≠ zl) ∧ (Below w.heap.size w w')) ?_ ?_
 rotate_left
 ·intro zab
  refine join_ (σ := Value × Value) 2 (bm 10 255) (fun s_ => [(30, s_.1), (33, s_.2), (34, .agg #[.int .i64 a0_0, s_.1, s_.2])]) (fun s_ w' => (w'.cell? ⟨zc, 0, none⟩ = some (.int .i64 a0_0) ∧ w'.cell? ⟨zc, 1, none⟩ = some (.slice A0_1 l0_1.length c0_1) ∧ w'.cell? ⟨zc, 2, none⟩ = some (.slice A0_2 l0_2.length c0_2)) ∧ (Kd.R (Kd.int .i64) 3 w' w.heap.size (fun k_ => some k_ ≠ (s_.2 : Value).ownBlock) s_.1 zw) ∧ (Kd.R (Kd.int .i64) 3 w' w.heap.size (fun k_ => some k_ ≠ (s_.1 : Value).ownBlock) s_.2 zx) ∧ (w'.heap[zc]? = some (.cells #[.int .i64 a0_0, .slice A0_1 l0_1.length c0_1, .slice A0_2 l0_2.length c0_2] 24 (0, 0))) ∧ (w'.heap[zl]? = some (.cells #[.int .i64 0, .slice none 0 0, .slice none 0 0] 24 (0, 0))) ∧ (Below w.heap.size w w')) ?_ ?_
  rotate_left
  ·intro zar
   refine join_ (σ := Value × Nat) 3 (bm 10 319) (fun s_ => [(30, s_.1), (7, .pointer (some ⟨s_.2, 0, none⟩))]) (fun s_ w' => (w'.cell? ⟨zc, 0, none⟩ = some (.int .i64 a0_0) ∧ w'.cell? ⟨zc, 1, none⟩ = some (.slice A0_1 l0_1.length c0_1) ∧ w'.cell? ⟨zc, 2, none⟩ = some (.slice A0_2 l0_2.length c0_2)) ∧ (Kd.R (Kd.int .i64) 3 w' w.heap.size (fun _ => True) s_.1 zw) ∧ (w'.heap[zc]? = some (.cells #[.int .i64 a0_0, .slice A0_1 l0_1.length c0_1, .slice A0_2 l0_2.length c0_2] 24 (0, 0))) ∧ (w'.heap[zl]? = some (.cells #[.int .i64 0, .slice none 0 0, .slice none 0 0] 24 (0, 0))) ∧ (w'.heap[s_.2]? = some (.cells #[.int .i64 0, .slice none 0 0, .slice none 0 0] 24 (0, 0))) ∧ (w.heap.size ≤ s_.2) ∧ (w.heap.size ≤ s_.2) ∧ (zc ≠ s_.2) ∧ (s_.2 ≠ zc) ∧ (zl ≠ s_.2) ∧ (s_.2 ≠ zl) ∧ (Below w.heap.size w w')) ?_ ?_
   rotate_left
   ·intro zas
    refine join_ (σ := Value × Nat) 3 (bm 10 375) (fun s_ => [(33, s_.1), (7, .pointer (some ⟨s_.2, 0, none⟩))]) (fun s_ w' => (w'.cell? ⟨zc, 0, none⟩ = some (.int .i64 a0_0) ∧ w'.cell? ⟨zc, 1, none⟩ = some (.slice A0_1 l0_1.length c0_1) ∧ w'.cell? ⟨zc, 2, none⟩ = some (.slice A0_2 l0_2.length c0_2)) ∧ (Kd.R (Kd.int .i64) 3 w' w.heap.size (fun _ => True) s_.1 zx) ∧ (w'.heap[zc]? = some (.cells #[.int .i64 a0_0, .slice A0_1 l0_1.length c0_1, .slice A0_2 l0_2.length c0_2] 24 (0, 0))) ∧ (w'.heap[zl]? = some (.cells #[.int .i64 0, .slice none 0 0, .slice none 0 0] 24 (0, 0))) ∧ (w'.heap[s_.2]? = some (.cells #[.int .i64 0, .slice none 0 0, .slice none 0 0] 24 (0, 0))) ∧ (w.heap.size ≤ s_.2) ∧ (w.heap.size ≤ s_.2) ∧ (zc ≠ s_.2) ∧ (s_.2 ≠ zc) ∧ (zl ≠ s_.2) ∧ (s_.2 ≠ zl) ∧ (Below w.heap.size w w')) ?_ ?_
    rotate_left
    ·intro zat
     refine join_ (σ := Value) 4 (bm 10 63) (fun s_ => [(30, s_)]) (fun s_ w' => (w'.cell? ⟨zc, 0, none⟩ = some (.int .i64 a0_0) ∧ w'.cell? ⟨zc, 1, none⟩ = some (.slice A0_1 l0_1.length c0_1) ∧ w'.cell? ⟨zc, 2, none⟩ = some (.slice A0_2 l0_2.length c0_2)) ∧ (Kd.R (Kd.int .i64) 3 w' w.heap.size (fun _ => True) s_ zw) ∧ (w'.heap[zc]? = some (.cells #[.int .i64 a0_0, .slice A0_1 l0_1.length c0_1, .slice A0_2 l0_2.length c0_2] 24 (0, 0))) ∧ (w'.heap[zl]? = some (.cells #[.int .i64 0, .slice none 0 0, .slice none 0 0] 24 (0, 0))) ∧ (Below w.heap.size w w')) ?_ ?_
     rotate_left
     ·intro hJ3
      refine join_ (σ := Value) 4 (bm 10 119) (fun s_ => [(33, s_)]) (fun s_ w' => (w'.cell? ⟨zc, 0, none⟩ = some (.int .i64 a0_0) ∧ w'.cell? ⟨zc, 1, none⟩ = some (.slice A0_1 l0_1.length c0_1) ∧ w'.cell? ⟨zc, 2, none⟩ = some (.slice A0_2 l0_2.length c0_2)) ∧ (Kd.R (Kd.int .i64) 3 w' w.heap.size (fun _ => True) s_ zx) ∧ (w'.heap[zc]? = some (.cells #[.int .i64 a0_0, .slice A0_1 l0_1.length c0_1, .slice A0_2 l0_2.length c0_2] 24 (0, 0))) ∧ (w'.heap[zl]? = some (.cells #[.int .i64 0, .slice none 0 0, .slice none 0 0] 24 (0, 0))) ∧ (Below w.heap.size w w')) ?_ ?_
      rotate_left
      ·intro hJ6
       refine join_ (σ := Nat) 4 (bm 10 311) (fun s_ => [(7, .pointer (some ⟨s_, 0, none⟩))]) (fun s_ w' => (w'.cell? ⟨zc, 0, none⟩ = some (.int .i64 a0_0) ∧ w'.cell? ⟨zc, 1, none⟩ = some (.slice A0_1 l0_1.length c0_1) ∧ w'.cell? ⟨zc, 2, none⟩ = some (.slice A0_2 l0_2.length c0_2)) ∧ (w'.heap[zc]? = some (.cells #[.int .i64 a0_0, .slice A0_1 l0_1.length c0_1, .slice A0_2 l0_2.length c0_2] 24 (0, 0))) ∧ (w'.heap[zl]? = some (.cells #[.int .i64 0, .slice none 0 0, .slice none 0 0] 24 (0, 0))) ∧ (w'.heap[s_]? = some (.cells #[.int .i64 0, .slice none 0 0, .slice none 0 0] 24 (0, 0))) ∧ (w.heap.size ≤ s_) ∧ (w.heap.size ≤ s_) ∧ (zc ≠ s_) ∧ (s_ ≠ zc) ∧ (zl ≠ s_) ∧ (s_ ≠ zl) ∧ (Below w.heap.size w w')) ?_ ?_
       rotate_left
       ·intro hJ8
        refine three_ (i := 3) (j := 6) (k := 8) (Ni := some 30) (Nj := some 33) (Nk := some 7) (bm 10 63) (bm 10 119) (bm 10 311) rfl rfl rfl rfl rfl rfl (three_of HT_.out (by kernel_rfl)) (by decide) (by decide) (by decide) (fun K hK => ?_) (fun K hK => ?_) (fun K hK => ?_)
        ·skip
         refine goes_ Try.func43 (by kernel_rfl) rfl #[.slice A1 l1.length c1] (by rfl) rfl rfl pA ?_
         with_reducible refine (slices_Clone_int_int.calls _ _ l1 zw _ ?s1 ?s2 A9.out).mono ?_
         (case s1 => exact sC HR1 HB)
         (case s2 => exact HC1.out)
         rintro e w20 ⟨zy, rfl, ho0, hb⟩
         refine ⟨_, rfl, ?_⟩
         have zn := aM (Kd.R_lower ho0 (below_size (qB2 HB ze zg)))
         replace za := bK za hb
         replace zb := bK zb hb
         replace HB := bS (qB2 HB ze zg) hb
         (try clear hb)
         (try clear hk)
         (try clear hi)
         (try clear ho0)
         refine hK.out _ _ (h3 za) (fun hHeld => ?_)
         clear hK K
         refine norm_ (a' := ?_) ?_ ?_
         rotate_left
         ·show Act.put _ (some 30) _ = _
          simp only [Act.put, sP, i64_w, i32_w]
          rfl
         exact norm_ (by first | (simp only [putAll, Act.put, sP]; done) | (simp only [putAll, Act.put, sP]; rfl)) (hJ3 (zy) _ ⟨hHeld, (pR zn.out), (pK za.out), (pK zb.out), (qB2 HB ze zg)⟩)
        ·skip
         refine Kd.R_make_step (Kd.int .i64) _ 3 (by rfl) (N := 33) rfl 22 _ _ rfl (l1.length : Int) rfl rfl Try.underlying22 (.int .i64 0) 8 info3 rfl (by decide) (by omega) 0 (ok := fun _ => True) (okp := fun _ => True) rfl (fun _ hk => hk) trivial (of_decide_eq_true pD) (Nat.le_trans (Nat.mul_le_mul_right _ (of_decide_eq_true pD : (l1.length : Int).toNat ≤ 35184372088832)) (by omega)) (Below.refl _ _) (Nat.le_refl _) ?_
         intro zz w20 ho21 hb hg_ hnew_
         clear hg_ hnew_
         (first | rw [← z2.out] at ho21 | (simp only [Int.reduceToNat] at ho21; rw [← z2.out] at ho21))
         have zo := aM (Kd.R_lower ho21 (below_size (qB2 HB ze zg)))
         replace za := bK za hb
         replace zb := bK zb hb
         replace HB := bS (qB2 HB ze zg) hb
         clear hb ho21
         refine hK.out _ _ (h3 za) (fun hHeld => ?_)
         clear hK K
         refine norm_ (a' := ?_) ?_ ?_
         rotate_left
         ·show Act.put _ (some 33) _ = _
          simp only [Act.put, sP, i64_w, i32_w]
          rfl
         exact norm_ (by first | (simp only [putAll, Act.put, sP]; done) | (simp only [putAll, Act.put, sP]; rfl)) (hJ6 (zz) _ ⟨hHeld, (pR zo.out), (pK za.out), (pK zb.out), (qB2 HB ze zg)⟩)
        ·skip
         refine box_step ?hg (N := 7) ?hd (cs := #[.int .i64 0, .slice none 0 0, .slice none 0 0]) (t := 24) ?hr ?_; (case hd => rfl); (case hg => rfl); (case hr => first | (go_simp; done) | (go_simp; rfl))
         intro zf hg w20 hbox hb
         have zk := aM (hbox)
         have zu := gE (w := w) hg (qB2 HB ze zg)
         have zm := zu
         replace HB := bS (qB2 HB ze zg) hb
         have zd := nL hg za
         have zh := nG hg za
         replace za := bK za hb
         have zi := nL hg zb
         have zj := nG hg zb
         replace zb := bK zb hb
         clear hb hbox hg
         refine hK.out _ _ (h3 za) (fun hHeld => ?_)
         clear hK K
         refine norm_ (a' := ?_) ?_ ?_
         rotate_left
         ·show Act.put _ (some 7) _ = _
          simp only [Act.put, sP, i64_w, i32_w]
          rfl
         exact norm_ (by first | (simp only [putAll, Act.put, sP]; done) | (simp only [putAll, Act.put, sP]; rfl)) (hJ8 (zf) _ ⟨hHeld, (pK za.out), (pK zb.out), (pK zk.out), zu.out, zm.out, zd.out, zh.out, zi.out, zj.out, (qB3 HB ze zg zm)⟩)
       ·skip
        rintro zf w21 ⟨hS_, h0_, h1_, h2_, h3_, h4_, h5_, h6_, h7_, h8_, h9_⟩
        have n0_ : Aside0 (w21.heap[zc]? = some (.cells #[.int .i64 a0_0, .slice A0_1 l0_1.length c0_1, .slice A0_2 l0_2.length c0_2] 24 (0, 0))) := ⟨h0_⟩
        have n1_ : Aside0 (w21.heap[zl]? = some (.cells #[.int .i64 0, .slice none 0 0, .slice none 0 0] 24 (0, 0))) := ⟨h1_⟩
        have n2_ : Aside0 (w21.heap[zf]? = some (.cells #[.int .i64 0, .slice none 0 0, .slice none 0 0] 24 (0, 0))) := ⟨h2_⟩
        have n3_ : Aside0 (w.heap.size ≤ zf) := ⟨h3_⟩
        have n4_ : Aside0 (w.heap.size ≤ zf) := ⟨h4_⟩
        have n5_ : Aside0 (zc ≠ zf) := ⟨h5_⟩
        have n6_ : Aside0 (zf ≠ zc) := ⟨h6_⟩
        have n7_ : Aside0 (zl ≠ zf) := ⟨h7_⟩
        have n8_ : Aside0 (zf ≠ zl) := ⟨h8_⟩
        have n9_ : Aside0 (Below w.heap.size w w21) := ⟨h9_⟩
        clear za
        clear zb
        clear HB
        clear h0_ h1_ h2_ h3_ h4_ h5_ h6_ h7_ h8_ h9_
        have za := n0_
        have zb := n1_
        have zk := n2_
        have zu := n3_
        have zm := n4_
        have zd := n5_
        have zh := n6_
        have zi := n7_
        have zj := n8_
        have HB := n9_
        clear n0_ n1_ n2_ n3_ n4_ n5_ n6_ n7_ n8_ n9_
        have hHeld : w21.cell? ⟨zc, 0, none⟩ = some (.int .i64 a0_0) ∧ w21.cell? ⟨zc, 1, none⟩ = some (.slice A0_1 l0_1.length c0_1) ∧ w21.cell? ⟨zc, 2, none⟩ = some (.slice A0_2 l0_2.length c0_2) := hS_
        refine norm_ (a' := ?_) ?_ ?_
        rotate_left
        ·simp only [putAll, Act.put, sP]
         rfl
        refine two_ (i := 3) (j := 6) (Ni := some 30) (Nj := some 33) (bm 10 319) (bm 10 375) rfl rfl rfl rfl (two_of HT_.out (by kernel_rfl)) (by decide) (by decide) (fun K hK => ?_) (fun K hK => ?_)
        ·skip
         refine goes_ Try.func43 (by kernel_rfl) rfl #[.slice A1 l1.length c1] (by rfl) rfl rfl pA ?_
         with_reducible refine (slices_Clone_int_int.calls _ _ l1 zw _ ?s1 ?s2 A9.out).mono ?_
         (case s1 => exact sC HR1 HB)
         (case s2 => exact HC1.out)
         rintro e w22 ⟨zy, rfl, ho0, hb⟩
         refine ⟨_, rfl, ?_⟩
         have zn := aM (Kd.R_lower ho0 (below_size (qB3 HB ze zg zm)))
         replace za := bK za hb
         replace zb := bK zb hb
         replace zk := bK zk hb
         replace HB := bS (qB3 HB ze zg zm) hb
         (try clear hb)
         (try clear ho0)
         refine hK.out _ _ (h3 za) (fun hHeld => ?_)
         clear hK K
         refine norm_ (a' := ?_) ?_ ?_
         rotate_left
         ·show Act.put _ (some 30) _ = _
          simp only [Act.put, sP, i64_w, i32_w]
          rfl
         exact norm_ (by first | (simp only [putAll, Act.put, sP]; done) | (simp only [putAll, Act.put, sP]; rfl)) (zas (zy, zf) _ ⟨hHeld, (pR zn.out), (pK za.out), (pK zb.out), (pK zk.out), zu.out, zm.out, zd.out, zh.out, zi.out, zj.out, (qB3 HB ze zg zm)⟩)
        ·skip
         refine Kd.R_make_step (Kd.int .i64) _ 3 (by rfl) (N := 33) rfl 22 _ _ rfl (l1.length : Int) rfl rfl Try.underlying22 (.int .i64 0) 8 info3 rfl (by decide) (by omega) 0 (ok := fun _ => True) (okp := fun _ => True) rfl (fun _ hk => hk) trivial (of_decide_eq_true pD) (Nat.le_trans (Nat.mul_le_mul_right _ (of_decide_eq_true pD : (l1.length : Int).toNat ≤ 35184372088832)) (by omega)) (Below.refl _ _) (Nat.le_refl _) ?_
         intro zz w22 ho23 hb hg_ hnew_
         clear hg_ hnew_
         (first | rw [← z2.out] at ho23 | (simp only [Int.reduceToNat] at ho23; rw [← z2.out] at ho23))
         have zo := aM (Kd.R_lower ho23 (below_size (qB3 HB ze zg zm)))
         replace za := bK za hb
         replace zb := bK zb hb
         replace zk := bK zk hb
         replace HB := bS (qB3 HB ze zg zm) hb
         clear hb ho23
         refine hK.out _ _ (h3 za) (fun hHeld => ?_)
         clear hK K
         refine norm_ (a' := ?_) ?_ ?_
         rotate_left
         ·show Act.put _ (some 33) _ = _
          simp only [Act.put, sP, i64_w, i32_w]
          rfl
         exact norm_ (by first | (simp only [putAll, Act.put, sP]; done) | (simp only [putAll, Act.put, sP]; rfl)) (zat (zz, zf) _ ⟨hHeld, (pR zo.out), (pK za.out), (pK zb.out), (pK zk.out), zu.out, zm.out, zd.out, zh.out, zi.out, zj.out, (qB3 HB ze zg zm)⟩)
      ·skip
       rintro zz w22 ⟨hS_, h0_, h1_, h2_, h3_⟩
       have n0_ : Aside0 (Kd.R (Kd.int .i64) 3 w22 w.heap.size (fun _ => True) zz zx) := ⟨h0_⟩
       have n1_ : Aside0 (w22.heap[zc]? = some (.cells #[.int .i64 a0_0, .slice A0_1 l0_1.length c0_1, .slice A0_2 l0_2.length c0_2] 24 (0, 0))) := ⟨h1_⟩
       have n2_ : Aside0 (w22.heap[zl]? = some (.cells #[.int .i64 0, .slice none 0 0, .slice none 0 0] 24 (0, 0))) := ⟨h2_⟩
       have n3_ : Aside0 (Below w.heap.size w w22) := ⟨h3_⟩
       clear za
       clear zb
       clear HB
       clear h0_ h1_ h2_ h3_
       have zo := n0_
       have za := n1_
       have zb := n2_
       have HB := n3_
       clear n0_ n1_ n2_ n3_
       have hHeld : w22.cell? ⟨zc, 0, none⟩ = some (.int .i64 a0_0) ∧ w22.cell? ⟨zc, 1, none⟩ = some (.slice A0_1 l0_1.length c0_1) ∧ w22.cell? ⟨zc, 2, none⟩ = some (.slice A0_2 l0_2.length c0_2) := hS_
       refine norm_ (a' := ?_) ?_ ?_
       rotate_left
       ·simp only [putAll, Act.put, sP]
        rfl
       refine two_ (i := 3) (j := 8) (Ni := some 30) (Nj := some 7) (bm 10 127) (bm 10 375) rfl rfl rfl rfl (two_of HT_.out (by kernel_rfl)) (by decide) (by decide) (fun K hK => ?_) (fun K hK => ?_)
       ·skip
        refine goes_ Try.func43 (by kernel_rfl) rfl #[.slice A1 l1.length c1] (by rfl) rfl rfl pA ?_
        with_reducible refine (slices_Clone_int_int.calls _ _ l1 zw _ ?s1 ?s2 A9.out).mono ?_
        (case s1 => exact sC HR1 HB)
        (case s2 => exact HC1.out)
        rintro e w23 ⟨zy, rfl, ho0, hb⟩
        refine ⟨_, rfl, ?_⟩
        have zn := aM (Kd.R_lower (Kd.R_new' ho0 (Kd.R_lt (pR zo.out))) (below_size (qB2 HB ze zg)))
        replace zo := eR zo ho0 hb
        replace za := bK za hb
        replace zb := bK zb hb
        replace HB := bS (qB2 HB ze zg) hb
        (try clear hb)
        (try clear ho0)
        obtain ⟨zau, zav, zam⟩ := Kd.R_slice zo.out
        (first | subst zam | (injection zam with f1_ f2_ f3_; have f4_ := f1_.symm; have f5_ := f3_.symm; clear f1_ f2_ f3_; subst f4_; subst f5_))
        obtain ⟨zae, zaf, z7⟩ := Kd.R_slice zn.out
        (first | subst z7 | (injection z7 with f1_ f2_ f3_; have f4_ := f1_.symm; have f5_ := f3_.symm; clear f1_ f2_ f3_; subst f4_; subst f5_))
        refine hK.out _ _ (h3 za) (fun hHeld => ?_)
        clear hK K
        refine norm_ (a' := ?_) ?_ ?_
        rotate_left
        ·show Act.put _ (some 30) _ = _
         simp only [Act.put, sP, i64_w, i32_w]
         rfl
        refine pP (i := 7) (N := some 34) (bm 10 255) rfl rfl HT_.out ?_
        exact norm_ (by first | (simp only [putAll, Act.put, sP]; done) | (simp only [putAll, Act.put, sP]; rfl)) (zar (.slice zae zw.length zaf, .slice zau zx.length zav) _ ⟨hHeld, (by (with_reducible repeat (first | apply rA | apply rN | apply rD)); exact Kd.R_mono zn.out (fun _ hk => hk.2)), (by (with_reducible repeat (first | apply rA | apply rN | apply rD)); exact Kd.R_mono zo.out (fun _ hk => hk.2)), (pK za.out), (pK zb.out), (qB2 HB ze zg)⟩)
       ·skip
        refine box_step ?hg (N := 7) ?hd (cs := #[.int .i64 0, .slice none 0 0, .slice none 0 0]) (t := 24) ?hr ?_; (case hd => rfl); (case hg => rfl); (case hr => first | (go_simp; done) | (go_simp; rfl))
        intro zf hg w23 hbox hb
        replace zo := bR zo hb
        have zk := aM (hbox)
        have zu := gE (w := w) hg (qB2 HB ze zg)
        have zm := zu
        replace HB := bS (qB2 HB ze zg) hb
        have zd := nL hg za
        have zh := nG hg za
        replace za := bK za hb
        have zi := nL hg zb
        have zj := nG hg zb
        replace zb := bK zb hb
        clear hb hbox hg
        refine hK.out _ _ (h3 za) (fun hHeld => ?_)
        clear hK K
        refine norm_ (a' := ?_) ?_ ?_
        rotate_left
        ·show Act.put _ (some 7) _ = _
         simp only [Act.put, sP, i64_w, i32_w]
         rfl
        exact norm_ (by first | (simp only [putAll, Act.put, sP]; done) | (simp only [putAll, Act.put, sP]; rfl)) (zat (zz, zf) _ ⟨hHeld, (pR zo.out), (pK za.out), (pK zb.out), (pK zk.out), zu.out, zm.out, zd.out, zh.out, zi.out, zj.out, (qB3 HB ze zg zm)⟩)
     ·skip
      rintro zy w21 ⟨hS_, h0_, h1_, h2_, h3_⟩
      have n0_ : Aside0 (Kd.R (Kd.int .i64) 3 w21 w.heap.size (fun _ => True) zy zw) := ⟨h0_⟩
      have n1_ : Aside0 (w21.heap[zc]? = some (.cells #[.int .i64 a0_0, .slice A0_1 l0_1.length c0_1, .slice A0_2 l0_2.length c0_2] 24 (0, 0))) := ⟨h1_⟩
      have n2_ : Aside0 (w21.heap[zl]? = some (.cells #[.int .i64 0, .slice none 0 0, .slice none 0 0] 24 (0, 0))) := ⟨h2_⟩
      have n3_ : Aside0 (Below w.heap.size w w21) := ⟨h3_⟩
      clear za
      clear zb
      clear HB
      clear h0_ h1_ h2_ h3_
      have zn := n0_
      have za := n1_
      have zb := n2_
      have HB := n3_
      clear n0_ n1_ n2_ n3_
      have hHeld : w21.cell? ⟨zc, 0, none⟩ = some (.int .i64 a0_0) ∧ w21.cell? ⟨zc, 1, none⟩ = some (.slice A0_1 l0_1.length c0_1) ∧ w21.cell? ⟨zc, 2, none⟩ = some (.slice A0_2 l0_2.length c0_2) := hS_
      refine norm_ (a' := ?_) ?_ ?_
      rotate_left
      ·simp only [putAll, Act.put, sP]
       rfl
      refine two_ (i := 6) (j := 8) (Ni := some 33) (Nj := some 7) (bm 10 127) (bm 10 319) rfl rfl rfl rfl (two_of HT_.out (by kernel_rfl)) (by decide) (by decide) (fun K hK => ?_) (fun K hK => ?_)
      ·skip
       refine Kd.R_make_step (Kd.int .i64) _ 3 (by rfl) (N := 33) rfl 22 _ _ rfl (l1.length : Int) rfl rfl Try.underlying22 (.int .i64 0) 8 info3 rfl (by decide) (by omega) 0 (ok := fun _ => True) (okp := fun _ => True) rfl (fun _ hk => hk) trivial (of_decide_eq_true pD) (Nat.le_trans (Nat.mul_le_mul_right _ (of_decide_eq_true pD : (l1.length : Int).toNat ≤ 35184372088832)) (by omega)) (Below.refl _ _) (Nat.le_refl _) ?_
       intro zz w22 ho23 hb hg_ hnew_
       clear hg_ hnew_
       (first | rw [← z2.out] at ho23 | (simp only [Int.reduceToNat] at ho23; rw [← z2.out] at ho23))
       have zo := aM (Kd.R_lower (Kd.R_new' ho23 (Kd.R_lt (pR zn.out))) (below_size (qB2 HB ze zg)))
       replace zn := eR zn ho23 hb
       replace za := bK za hb
       replace zb := bK zb hb
       replace HB := bS (qB2 HB ze zg) hb
       clear hb ho23
       obtain ⟨zau, zav, zam⟩ := Kd.R_slice zo.out
       (first | subst zam | (injection zam with f1_ f2_ f3_; have f4_ := f1_.symm; have f5_ := f3_.symm; clear f1_ f2_ f3_; subst f4_; subst f5_))
       obtain ⟨zae, zaf, z7⟩ := Kd.R_slice zn.out
       (first | subst z7 | (injection z7 with f1_ f2_ f3_; have f4_ := f1_.symm; have f5_ := f3_.symm; clear f1_ f2_ f3_; subst f4_; subst f5_))
       refine hK.out _ _ (h3 za) (fun hHeld => ?_)
       clear hK K
       refine norm_ (a' := ?_) ?_ ?_
       rotate_left
       ·show Act.put _ (some 33) _ = _
        simp only [Act.put, sP, i64_w, i32_w]
        rfl
       refine pP (i := 7) (N := some 34) (bm 10 255) rfl rfl HT_.out ?_
       exact norm_ (by first | (simp only [putAll, Act.put, sP]; done) | (simp only [putAll, Act.put, sP]; rfl)) (zar (.slice zae zw.length zaf, .slice zau zx.length zav) _ ⟨hHeld, (by (with_reducible repeat (first | apply rA | apply rN | apply rD)); exact Kd.R_mono zn.out (fun _ hk => hk.2)), (by (with_reducible repeat (first | apply rA | apply rN | apply rD)); exact Kd.R_mono zo.out (fun _ hk => hk.2)), (pK za.out), (pK zb.out), (qB2 HB ze zg)⟩)
      ·skip
       refine box_step ?hg (N := 7) ?hd (cs := #[.int .i64 0, .slice none 0 0, .slice none 0 0]) (t := 24) ?hr ?_; (case hd => rfl); (case hg => rfl); (case hr => first | (go_simp; done) | (go_simp; rfl))
       intro zf hg w22 hbox hb
       replace zn := bR zn hb
       have zk := aM (hbox)
       have zu := gE (w := w) hg (qB2 HB ze zg)
       have zm := zu
       replace HB := bS (qB2 HB ze zg) hb
       have zd := nL hg za
       have zh := nG hg za
       replace za := bK za hb
       have zi := nL hg zb
       have zj := nG hg zb
       replace zb := bK zb hb
       clear hb hbox hg
       refine hK.out _ _ (h3 za) (fun hHeld => ?_)
       clear hK K
       refine norm_ (a' := ?_) ?_ ?_
       rotate_left
       ·show Act.put _ (some 7) _ = _
        simp only [Act.put, sP, i64_w, i32_w]
        rfl
       exact norm_ (by first | (simp only [putAll, Act.put, sP]; done) | (simp only [putAll, Act.put, sP]; rfl)) (zas (zy, zf) _ ⟨hHeld, (pR zn.out), (pK za.out), (pK zb.out), (pK zk.out), zu.out, zm.out, zd.out, zh.out, zi.out, zj.out, (qB3 HB ze zg zm)⟩)
    ·skip
     rintro ⟨zz, zf⟩ w23 ⟨hS_, h0_, h1_, h2_, h3_, h4_, h5_, h6_, h7_, h8_, h9_, h10_⟩
     have n0_ : Aside0 (Kd.R (Kd.int .i64) 3 w23 w.heap.size (fun _ => True) zz zx) := ⟨h0_⟩
     have n1_ : Aside0 (w23.heap[zc]? = some (.cells #[.int .i64 a0_0, .slice A0_1 l0_1.length c0_1, .slice A0_2 l0_2.length c0_2] 24 (0, 0))) := ⟨h1_⟩
     have n2_ : Aside0 (w23.heap[zl]? = some (.cells #[.int .i64 0, .slice none 0 0, .slice none 0 0] 24 (0, 0))) := ⟨h2_⟩
     have n3_ : Aside0 (w23.heap[zf]? = some (.cells #[.int .i64 0, .slice none 0 0, .slice none 0 0] 24 (0, 0))) := ⟨h3_⟩
     have n4_ : Aside0 (w.heap.size ≤ zf) := ⟨h4_⟩
     have n5_ : Aside0 (w.heap.size ≤ zf) := ⟨h5_⟩
     have n6_ : Aside0 (zc ≠ zf) := ⟨h6_⟩
     have n7_ : Aside0 (zf ≠ zc) := ⟨h7_⟩
     have n8_ : Aside0 (zl ≠ zf) := ⟨h8_⟩
     have n9_ : Aside0 (zf ≠ zl) := ⟨h9_⟩
     have n10_ : Aside0 (Below w.heap.size w w23) := ⟨h10_⟩
     clear za
     clear zb
     clear HB
     clear h0_ h1_ h2_ h3_ h4_ h5_ h6_ h7_ h8_ h9_ h10_
     have zo := n0_
     have za := n1_
     have zb := n2_
     have zk := n3_
     have zu := n4_
     have zm := n5_
     have zd := n6_
     have zh := n7_
     have zi := n8_
     have zj := n9_
     have HB := n10_
     clear n0_ n1_ n2_ n3_ n4_ n5_ n6_ n7_ n8_ n9_ n10_
     have hHeld : w23.cell? ⟨zc, 0, none⟩ = some (.int .i64 a0_0) ∧ w23.cell? ⟨zc, 1, none⟩ = some (.slice A0_1 l0_1.length c0_1) ∧ w23.cell? ⟨zc, 2, none⟩ = some (.slice A0_2 l0_2.length c0_2) := hS_
     refine norm_ (a' := ?_) ?_ ?_
     rotate_left
     ·simp only [putAll, Act.put, sP]
      rfl
     refine one_ (i := 3) (N := some 30) (bm 10 383) rfl rfl (one_of HT_.out (by kernel_rfl)) (by decide) (fun K hK => ?_)
     refine goes_ Try.func43 (by kernel_rfl) rfl #[.slice A1 l1.length c1] (by rfl) rfl rfl pA ?_
     with_reducible refine (slices_Clone_int_int.calls _ _ l1 zw _ ?s1 ?s2 A9.out).mono ?_
     (case s1 => exact sC HR1 HB)
     (case s2 => exact HC1.out)
     rintro e w24 ⟨zy, rfl, ho0, hb⟩
     refine ⟨_, rfl, ?_⟩
     have zn := aM (Kd.R_lower (Kd.R_new' ho0 (Kd.R_lt (pR zo.out))) (below_size (qB3 HB ze zg zm)))
     replace zo := eR zo ho0 hb
     replace za := bK za hb
     replace zb := bK zb hb
     replace zk := bK zk hb
     replace HB := bS (qB3 HB ze zg zm) hb
     (try clear hb)
     (try clear ho0)
     obtain ⟨zae, zaf, z7⟩ := Kd.R_slice zo.out
     (first | subst z7 | (injection z7 with f1_ f2_ f3_; have f4_ := f1_.symm; have f5_ := f3_.symm; clear f1_ f2_ f3_; subst f4_; subst f5_))
     obtain ⟨zan, zao, zad⟩ := Kd.R_slice zn.out
     (first | subst zad | (injection zad with f1_ f2_ f3_; have f4_ := f1_.symm; have f5_ := f3_.symm; clear f1_ f2_ f3_; subst f4_; subst f5_))
     refine hK.out _ _ (h3 za) (fun hHeld => ?_)
     clear hK K
     refine norm_ (a' := ?_) ?_ ?_
     rotate_left
     ·show Act.put _ (some 30) _ = _
      simp only [Act.put, sP, i64_w, i32_w]
      rfl
     refine pP (i := 7) (N := some 34) (bm 10 511) rfl rfl HT_.out ?_
     exact norm_ (by first | (simp only [putAll, Act.put, sP]; done) | (simp only [putAll, Act.put, sP]; rfl)) (zab (.slice zan zw.length zao, .slice zae zx.length zaf, zf) _ ⟨hHeld, (by (with_reducible repeat (first | apply rA | apply rN | apply rD)); exact Kd.R_mono zn.out (fun _ hk => hk.2)), (by (with_reducible repeat (first | apply rA | apply rN | apply rD)); exact Kd.R_mono zo.out (fun _ hk => hk.2)), (pK za.out), (pK zb.out), (pK zk.out), zu.out, zm.out, zd.out, zh.out, zi.out, zj.out, (qB3 HB ze zg zm)⟩)
   ·skip
    rintro ⟨zy, zf⟩ w22 ⟨hS_, h0_, h1_, h2_, h3_, h4_, h5_, h6_, h7_, h8_, h9_, h10_⟩
    have n0_ : Aside0 (Kd.R (Kd.int .i64) 3 w22 w.heap.size (fun _ => True) zy zw) := ⟨h0_⟩
    have n1_ : Aside0 (w22.heap[zc]? = some (.cells #[.int .i64 a0_0, .slice A0_1 l0_1.length c0_1, .slice A0_2 l0_2.length c0_2] 24 (0, 0))) := ⟨h1_⟩
    have n2_ : Aside0 (w22.heap[zl]? = some (.cells #[.int .i64 0, .slice none 0 0, .slice none 0 0] 24 (0, 0))) := ⟨h2_⟩
    have n3_ : Aside0 (w22.heap[zf]? = some (.cells #[.int .i64 0, .slice none 0 0, .slice none 0 0] 24 (0, 0))) := ⟨h3_⟩
    have n4_ : Aside0 (w.heap.size ≤ zf) := ⟨h4_⟩
    have n5_ : Aside0 (w.heap.size ≤ zf) := ⟨h5_⟩
    have n6_ : Aside0 (zc ≠ zf) := ⟨h6_⟩
    have n7_ : Aside0 (zf ≠ zc) := ⟨h7_⟩
    have n8_ : Aside0 (zl ≠ zf) := ⟨h8_⟩
    have n9_ : Aside0 (zf ≠ zl) := ⟨h9_⟩
    have n10_ : Aside0 (Below w.heap.size w w22) := ⟨h10_⟩
    clear za
    clear zb
    clear HB
    clear h0_ h1_ h2_ h3_ h4_ h5_ h6_ h7_ h8_ h9_ h10_
    have zn := n0_
    have za := n1_
    have zb := n2_
    have zk := n3_
    have zu := n4_
    have zm := n5_
    have zd := n6_
    have zh := n7_
    have zi := n8_
    have zj := n9_
    have HB := n10_
    clear n0_ n1_ n2_ n3_ n4_ n5_ n6_ n7_ n8_ n9_ n10_
    have hHeld : w22.cell? ⟨zc, 0, none⟩ = some (.int .i64 a0_0) ∧ w22.cell? ⟨zc, 1, none⟩ = some (.slice A0_1 l0_1.length c0_1) ∧ w22.cell? ⟨zc, 2, none⟩ = some (.slice A0_2 l0_2.length c0_2) := hS_
    refine norm_ (a' := ?_) ?_ ?_
    rotate_left
    ·simp only [putAll, Act.put, sP]
     rfl
    refine one_ (i := 6) (N := some 33) (bm 10 383) rfl rfl (one_of HT_.out (by kernel_rfl)) (by decide) (fun K hK => ?_)
    refine Kd.R_make_step (Kd.int .i64) _ 3 (by rfl) (N := 33) rfl 22 _ _ rfl (l1.length : Int) rfl rfl Try.underlying22 (.int .i64 0) 8 info3 rfl (by decide) (by omega) 0 (ok := fun _ => True) (okp := fun _ => True) rfl (fun _ hk => hk) trivial (of_decide_eq_true pD) (Nat.le_trans (Nat.mul_le_mul_right _ (of_decide_eq_true pD : (l1.length : Int).toNat ≤ 35184372088832)) (by omega)) (Below.refl _ _) (Nat.le_refl _) ?_
    intro zz w23 ho24 hb hg_ hnew_
    clear hg_ hnew_
    (first | rw [← z2.out] at ho24 | (simp only [Int.reduceToNat] at ho24; rw [← z2.out] at ho24))
    have zo := aM (Kd.R_lower (Kd.R_new' ho24 (Kd.R_lt (pR zn.out))) (below_size (qB3 HB ze zg zm)))
    replace zn := eR zn ho24 hb
    replace za := bK za hb
    replace zb := bK zb hb
    replace zk := bK zk hb
    replace HB := bS (qB3 HB ze zg zm) hb
    clear hb ho24
    obtain ⟨zae, zaf, z7⟩ := Kd.R_slice zo.out
    (first | subst z7 | (injection z7 with f1_ f2_ f3_; have f4_ := f1_.symm; have f5_ := f3_.symm; clear f1_ f2_ f3_; subst f4_; subst f5_))
    obtain ⟨zan, zao, zad⟩ := Kd.R_slice zn.out
    (first | subst zad | (injection zad with f1_ f2_ f3_; have f4_ := f1_.symm; have f5_ := f3_.symm; clear f1_ f2_ f3_; subst f4_; subst f5_))
    refine hK.out _ _ (h3 za) (fun hHeld => ?_)
    clear hK K
    refine norm_ (a' := ?_) ?_ ?_
    rotate_left
    ·show Act.put _ (some 33) _ = _
     simp only [Act.put, sP, i64_w, i32_w]
     rfl
    refine pP (i := 7) (N := some 34) (bm 10 511) rfl rfl HT_.out ?_
    exact norm_ (by first | (simp only [putAll, Act.put, sP]; done) | (simp only [putAll, Act.put, sP]; rfl)) (zab (.slice zan zw.length zao, .slice zae zx.length zaf, zf) _ ⟨hHeld, (by (with_reducible repeat (first | apply rA | apply rN | apply rD)); exact Kd.R_mono zn.out (fun _ hk => hk.2)), (by (with_reducible repeat (first | apply rA | apply rN | apply rD)); exact Kd.R_mono zo.out (fun _ hk => hk.2)), (pK za.out), (pK zb.out), (pK zk.out), zu.out, zm.out, zd.out, zh.out, zi.out, zj.out, (qB3 HB ze zg zm)⟩)
  ·skip
   rintro ⟨zy, zz⟩ w25 ⟨hS_, h0_, h1_, h2_, h3_, h4_⟩
   have n0_ : Aside0 (Kd.R (Kd.int .i64) 3 w25 w.heap.size (fun k_ => some k_ ≠ (zz : Value).ownBlock) zy zw) := ⟨h0_⟩
   have n1_ : Aside0 (Kd.R (Kd.int .i64) 3 w25 w.heap.size (fun k_ => some k_ ≠ (zy : Value).ownBlock) zz zx) := ⟨h1_⟩
   have n2_ : Aside0 (w25.heap[zc]? = some (.cells #[.int .i64 a0_0, .slice A0_1 l0_1.length c0_1, .slice A0_2 l0_2.length c0_2] 24 (0, 0))) := ⟨h2_⟩
   have n3_ : Aside0 (w25.heap[zl]? = some (.cells #[.int .i64 0, .slice none 0 0, .slice none 0 0] 24 (0, 0))) := ⟨h3_⟩
   have n4_ : Aside0 (Below w.heap.size w w25) := ⟨h4_⟩
   clear za
   clear zb
   clear HB
   clear h0_ h1_ h2_ h3_ h4_
   have zn := n0_
   have zo := n1_
   have za := n2_
   have zb := n3_
   have HB := n4_
   clear n0_ n1_ n2_ n3_ n4_
   have hHeld : w25.cell? ⟨zc, 0, none⟩ = some (.int .i64 a0_0) ∧ w25.cell? ⟨zc, 1, none⟩ = some (.slice A0_1 l0_1.length c0_1) ∧ w25.cell? ⟨zc, 2, none⟩ = some (.slice A0_2 l0_2.length c0_2) := hS_
   obtain ⟨zan, zao, zad⟩ := Kd.R_slice zo.out
   (first | subst zad | (injection zad with f1_ f2_ f3_; have f4_ := f1_.symm; have f5_ := f3_.symm; clear f1_ f2_ f3_; subst f4_; subst f5_))
   obtain ⟨zaw, zax, zap⟩ := Kd.R_slice zn.out
   (first | subst zap | (injection zap with f1_ f2_ f3_; have f4_ := f1_.symm; have f5_ := f3_.symm; clear f1_ f2_ f3_; subst f4_; subst f5_))
   refine norm_ (a' := ?_) ?_ ?_
   rotate_left
   ·simp only [putAll, Act.put, sP]
    rfl
   refine one_ (i := 8) (N := some 7) (bm 10 511) rfl rfl (one_of HT_.out (by kernel_rfl)) (by decide) (fun K hK => ?_)
   refine box_step ?hg (N := 7) ?hd (cs := #[.int .i64 0, .slice none 0 0, .slice none 0 0]) (t := 24) ?hr ?_; (case hd => rfl); (case hg => rfl); (case hr => first | (go_simp; done) | (go_simp; rfl))
   intro zf hg w28 hbox hb
   replace zn := bR zn hb
   replace zo := bR zo hb
   have zk := aM (hbox)
   have zu := gE (w := w) hg (qB2 HB ze zg)
   have zm := zu
   replace HB := bS (qB2 HB ze zg) hb
   have zd := nL hg za
   have zh := nG hg za
   replace za := bK za hb
   have zi := nL hg zb
   have zj := nG hg zb
   replace zb := bK zb hb
   clear hb hbox hg
   refine hK.out _ _ (h3 za) (fun hHeld => ?_)
   clear hK K
   refine norm_ (a' := ?_) ?_ ?_
   rotate_left
   ·show Act.put _ (some 7) _ = _
    simp only [Act.put, sP, i64_w, i32_w]
    rfl
   exact norm_ (by first | (simp only [putAll, Act.put, sP]; done) | (simp only [putAll, Act.put, sP]; rfl)) (zab (.slice zaw zw.length zax, .slice zan zx.length zao, zf) _ ⟨hHeld, (pR zn.out), (pR zo.out), (pK za.out), (pK zb.out), (pK zk.out), zu.out, zm.out, zd.out, zh.out, zi.out, zj.out, (qB3 HB ze zg zm)⟩)
 rintro ⟨zy, zz, zf⟩ w26 ⟨hS_, h0_, h1_, h2_, h3_, h4_, h5_, h6_, h7_, h8_, h9_, h10_, h11_⟩
 have n0_ : Aside0 (Kd.R (Kd.int .i64) 3 w26 w.heap.size (fun k_ => some k_ ≠ (zz : Value).ownBlock) zy zw) := ⟨h0_⟩
 have n1_ : Aside0 (Kd.R (Kd.int .i64) 3 w26 w.heap.size (fun k_ => some k_ ≠ (zy : Value).ownBlock) zz zx) := ⟨h1_⟩
 have n2_ : Aside0 (w26.heap[zc]? = some (.cells #[.int .i64 a0_0, .slice A0_1 l0_1.length c0_1, .slice A0_2 l0_2.length c0_2] 24 (0, 0))) := ⟨h2_⟩
 have n3_ : Aside0 (w26.heap[zl]? = some (.cells #[.int .i64 0, .slice none 0 0, .slice none 0 0] 24 (0, 0))) := ⟨h3_⟩
 have n4_ : Aside0 (w26.heap[zf]? = some (.cells #[.int .i64 0, .slice none 0 0, .slice none 0 0] 24 (0, 0))) := ⟨h4_⟩
 have n5_ : Aside0 (w.heap.size ≤ zf) := ⟨h5_⟩
 have n6_ : Aside0 (w.heap.size ≤ zf) := ⟨h6_⟩
 have n7_ : Aside0 (zc ≠ zf) := ⟨h7_⟩
 have n8_ : Aside0 (zf ≠ zc) := ⟨h8_⟩
 have n9_ : Aside0 (zl ≠ zf) := ⟨h9_⟩
 have n10_ : Aside0 (zf ≠ zl) := ⟨h10_⟩
 have n11_ : Aside0 (Below w.heap.size w w26) := ⟨h11_⟩
 clear za
 clear zb
 clear HB
 clear h0_ h1_ h2_ h3_ h4_ h5_ h6_ h7_ h8_ h9_ h10_ h11_
 have zn := n0_
 have zo := n1_
 have za := n2_
 have zb := n3_
 have zk := n4_
 have zu := n5_
 have zm := n6_
 have zd := n7_
 have zh := n8_
 have zi := n9_
 have zj := n10_
 have HB := n11_
 clear n0_ n1_ n2_ n3_ n4_ n5_ n6_ n7_ n8_ n9_ n10_ n11_
 have hHeld : w26.cell? ⟨zc, 0, none⟩ = some (.int .i64 a0_0) ∧ w26.cell? ⟨zc, 1, none⟩ = some (.slice A0_1 l0_1.length c0_1) ∧ w26.cell? ⟨zc, 2, none⟩ = some (.slice A0_2 l0_2.length c0_2) := hS_
 obtain ⟨zaw, zax, zap⟩ := Kd.R_slice zo.out
 (first | subst zap | (injection zap with f1_ f2_ f3_; have f4_ := f1_.symm; have f5_ := f3_.symm; clear f1_ f2_ f3_; subst f4_; subst f5_))
 obtain ⟨Ao28, co28, zay⟩ := Kd.R_slice zn.out
 (first | subst zay | (injection zay with f1_ f2_ f3_; have f4_ := f1_.symm; have f5_ := f3_.symm; clear f1_ f2_ f3_; subst f4_; subst f5_))
 refine norm_ (a' := ?_) ?_ ?_
 rotate_left
 ·simp only [putAll, Act.put, sP]
  rfl
 refine one_ (i := 9) (N := none) (bm 10 1023) rfl rfl (one_of HT_.out (by kernel_rfl)) (by decide) (fun K hK => ?_)
 have hs29 : w26.cell? ⟨zf, 0, none⟩ = some (.int .i64 0) := (blk_cell zk.out 0).trans rfl
 have hfs29 := blk_frozen zk.out 0
 have hns29_0 := zd.out
 have hns29_1 := zi.out
 have hms29_0 := zh.out
 have hms29_1 := zj.out
 have hs30 : w26.cell? ⟨zf, 1, none⟩ = some (.slice none 0 0) := (blk_cell zk.out 1).trans rfl
 have hfs30 := blk_frozen zk.out 1
 have hns30_0 := zd.out
 have hns30_1 := zi.out
 have hms30_0 := zh.out
 have hms30_1 := zj.out
 have hs31 : w26.cell? ⟨zf, 2, none⟩ = some (.slice none 0 0) := (blk_cell zk.out 2).trans rfl
 have hfs31 := blk_frozen zk.out 2
 have hns31_0 := zd.out
 have hns31_1 := zi.out
 have hms31_0 := zh.out
 have hms31_1 := zj.out
 refine skip_ (w1 := ?_) (by rfl) rfl ?_ ?_
 rotate_left
 ·go_simp
  rfl
 refine hK.out _ _ ⟨((cell_far (p := ⟨zf, _, none⟩) zd.out _).trans (((cell_far (p := ⟨zf, _, none⟩) zd.out _).trans (((cell_far (p := ⟨zf, _, none⟩) zd.out _).trans (hHeld.1)))))), ((cell_far (p := ⟨zf, _, none⟩) zd.out _).trans (((cell_far (p := ⟨zf, _, none⟩) zd.out _).trans (((cell_far (p := ⟨zf, _, none⟩) zd.out _).trans (hHeld.2.1)))))), ((cell_far (p := ⟨zf, _, none⟩) zd.out _).trans (((cell_far (p := ⟨zf, _, none⟩) zd.out _).trans (((cell_far (p := ⟨zf, _, none⟩) zd.out _).trans (hHeld.2.2))))))⟩ (fun hHeld => ?_)
 clear hK K
 refine done_ (done_of HT_.out (by kernel_rfl)) ?_
 have hnb32 := zd.out
 have hnc32 := zh.out
 obtain ⟨hcz33_0, hcz33_1, hcz33_2, hfz33_0, hfz33_1, hfz33_2⟩ := blk3 za.out
 try go_wp2
 go_loopg [44] k (fun kq v44 w' => ∃ (x44_1 : Int) (zt : List Int) (zp : List Int) (u450001 : Value) (u450002 : Value), v44 = .int .i64 x44_1 ∧ Aside0 (view_Expand.l0 kq (wrap64 ((l1.length : Int) - (l0_1.length : Int))) l0_1 (l0_1.length : Int) x44_1 a0_0 l0_1 l0_2 a0_0 zt zp = some (r1, r2, r3, r4)) ∧ Aside0 (kq ≤ k) ∧ Aside0 (Kd.R (Kd.int .i64) 3 w' w.heap.size (fun k_ => some k_ ≠ (u450002 : Value).ownBlock) u450001 zt) ∧ Aside0 (Kd.R (Kd.int .i64) 3 w' w.heap.size (fun k_ => some k_ ≠ (u450001 : Value).ownBlock) u450002 zp) ∧ Aside0 (w'.heap[zc]? = some (.cells #[.int .i64 a0_0, (.slice A0_1 l0_1.length c0_1), (.slice A0_2 l0_2.length c0_2)] 24 (0, 0))) ∧ Aside0 (w'.heap[zl]? = some (.cells #[.int .i64 0, (.slice none 0 0), (.slice none 0 0)] 24 (0, 0))) ∧ Aside0 (w'.heap[zf]? = some (.cells #[.int .i64 a0_0, u450001, u450002] 24 (0, 0))) ∧ Aside0 (Below w.heap.size w w'))
 case atStart => exact ⟨(0), (zw), (zx), (.slice Ao28 zw.length co28), (.slice zaw zx.length zax), (pF), H', ⟨Nat.le_refl _⟩, ⟨by (with_reducible repeat (first | apply rA | apply rN | apply rD)); exact F3 zn zk (fun _ hk => hk.1)⟩, ⟨by (with_reducible repeat (first | apply rA | apply rN | apply rD)); exact F3 zo zk (fun _ hk => hk.1)⟩, ⟨by refine B3 zd ?_; exact za.out⟩, ⟨by refine B3 zi ?_; exact zb.out⟩, ⟨by exact P3 zk⟩, ⟨qB3 HB ze zg zm⟩⟩
 case round =>
  clear H'
  try clear c1
  try clear c4
  try clear hcz33_0 hcz33_1 hcz33_2 hfz33_0 hfz33_1 hfz33_2
  obtain ⟨x44_1, zt, zp, u450001, u450002, rfl, HA, HK1, zv, zq, za, zb, zk, HB⟩ := hrel
  cases gk with
  | zero => exact absurd HA.out (by simp [view_Expand.l0])
  | succ k1 =>
   have H := HA.out
   clear HA
   simp only [view_Expand.l0] at H
   by_cases c34 : x44_1 < (l0_1.length : Int)
   rotate_left
   ·rw [if_neg c34] at H
    have c34b0 : decide (x44_1 < (l0_1.length : Int)) = false := decide_eq_false c34
    clear c34
    simp only [Option.some.injEq, Prod.mk.injEq] at H
    obtain ⟨rfl, rfl, rfl, rfl⟩ := H
    have hnb45 := zh.out
    have hnc45 := zd.out
    have hnb46 := zj.out
    have hnc46 := zi.out
    obtain ⟨hcz47_0, hcz47_1, hcz47_2, hfz47_0, hfz47_1, hfz47_2⟩ := blk3 zk.out
    have hnb48 := zs.out
    have hnc48 := zr.out
    obtain ⟨hcz49_0, hcz49_1, hcz49_2, hfz49_0, hfz49_1, hfz49_2⟩ := blk3 zb.out
    obtain ⟨Ao50, co50, eo50⟩ := Kd.R_slice zv.out
    subst eo50
    obtain ⟨Ao51, co51, eo51⟩ := Kd.R_slice zq.out
    subst eo51
    go_wp2
    refine bodyPost_ret (results_ct rfl _ _ zl 24 #[.int .i64 a0_0, .slice Ao50 zt.length co50, .slice Ao51 zp.length co51] (0, 0) _ rfl (by exact P3 zb) Try.underlying24 rfl (by kernel_rfl)) rfl ?_
    exact ⟨_, _, pE, by (with_reducible repeat (first | apply rA | apply rN | apply rD)); exact F3 zv zb (fun _ hk => hk.1), by (with_reducible repeat (first | apply rA | apply rN | apply rD)); exact F3 zq zb (fun _ hk => hk.1), qB3 HB ze zg zm⟩
   rw [if_pos c34] at H
   have c34b0 : decide (x44_1 < (l0_1.length : Int)) = true := decide_eq_true c34
   clear c34
   by_cases c35 : 0 ≤ x44_1
   rotate_left
   ·rw [if_neg c35] at H
    exact absurd H (by simp)
   rw [if_pos c35] at H
   have c35b0 : decide (0 ≤ x44_1) = true := decide_eq_true c35
   clear c35
   by_cases c36 : x44_1 < (l0_1.length : Int)
   rotate_left
   ·rw [if_neg c36] at H
    exact absurd H (by simp)
   rw [if_pos c36] at H
   have c36b0 : decide (x44_1 < (l0_1.length : Int)) = true := decide_eq_true c36
   clear c36
   by_cases c37 : (rd l0_1 x44_1) > 1
   rotate_left
   ·rw [if_neg c37] at H
    have c37b0 : decide (1 < (rd l0_1 x44_1)) = false := decide_eq_false c37
    clear c37
    have H' := aM H
    clear H
    have p450 : 0 ≤ (x44_1 : Int) := of_decide_eq_true pD
    have q450 : x44_1 < (l0_1.length : Int) := of_decide_eq_true pD
    obtain ⟨ad450, e450, hx450_0⟩ := Kd.at_int z1.out x44_1 p450 q450
    cases e450
    replace hx450_0 := (HB.out.cell (World.block_lt_of_cell? w _ hx450_0)).trans hx450_0
    replace p450 := eq_true p450
    replace q450 := eq_true q450
    go_wp2
    go_roundg k1
    case measure => have := HK1.out; omega
    case rel => exact ⟨(wrap64 (x44_1 + 1)), (zt), (zp), (u450001), (u450002), (pF), H', ⟨by have := HK1.out; omega⟩, ⟨pR zv.out⟩, ⟨pR zq.out⟩, ⟨pK za.out⟩, ⟨pK zb.out⟩, ⟨pK zk.out⟩, ⟨qB3 HB ze zg zm⟩⟩
   rw [if_pos c37] at H
   have c37b0 : decide (1 < (rd l0_1 x44_1)) = true := decide_eq_true c37
   clear c37
   by_cases c38 : x44_1 < (l0_2.length : Int)
   rotate_left
   ·rw [if_neg c38] at H
    exact absurd H (by simp)
   rw [if_pos c38] at H
   have c38b0 : decide (x44_1 < (l0_2.length : Int)) = true := decide_eq_true c38
   clear c38
   obtain ⟨ji39, hji39⟩ : ∃ j_ : Int, (wrap64 ((wrap64 ((l1.length : Int) - (l0_1.length : Int))) + x44_1)) = j_ := ⟨_, rfl⟩
   replace H : (if 0 ≤ (ji39) then (if (ji39) < (zp.length : Int) then (view_Expand.l0 k1 (wrap64 ((l1.length : Int) - (l0_1.length : Int))) l0_1 (l0_1.length : Int) (wrap64 (x44_1 + 1)) a0_0 l0_1 l0_2 a0_0 zt (zp.set ((ji39) : Int).toNat (rd l0_2 x44_1))) else (none)) else (none)) = some (r1, r2, r3, r4) := by first | (rw [hji39] at H; exact H) | (simp only [hji39] at H ⊢; exact H)
   have hji39w : (IntKind.i64.wrap ((wrap64 ((l1.length : Int) - (l0_1.length : Int))) + x44_1)) = ji39 := (i64_w _).trans hji39
   by_cases c40 : 0 ≤ (ji39)
   rotate_left
   ·rw [if_neg c40] at H
    exact absurd H (by simp)
   rw [if_pos c40] at H
   have c40b0 : decide (0 ≤ (ji39)) = true := decide_eq_true c40
   clear c40
   by_cases c41 : (ji39) < (zp.length : Int)
   rotate_left
   ·rw [if_neg c41] at H
    exact absurd H (by simp)
   rw [if_pos c41] at H
   have c41b0 : decide ((ji39) < (zp.length : Int)) = true := decide_eq_true c41
   clear c41
   obtain ⟨zaz, zaq⟩ : ∃ y_ : List Int, y_ = (zp.set ((ji39) : Int).toNat (rd l0_2 x44_1)) := ⟨_, rfl⟩
   replace H : (view_Expand.l0 k1 (wrap64 ((l1.length : Int) - (l0_1.length : Int))) l0_1 (l0_1.length : Int) (wrap64 (x44_1 + 1)) a0_0 l0_1 l0_2 a0_0 zt zaz) = some (r1, r2, r3, r4) := pH zaq H
   have Ny452 := aM zaq
   clear zaq
   have H' := aM H
   clear H
   have p450 : 0 ≤ (x44_1 : Int) := of_decide_eq_true pD
   have q450 : x44_1 < (l0_1.length : Int) := of_decide_eq_true pD
   obtain ⟨ad450, e450, hx450_0⟩ := Kd.at_int z1.out x44_1 p450 q450
   cases e450
   replace hx450_0 := (HB.out.cell (World.block_lt_of_cell? w _ hx450_0)).trans hx450_0
   replace p450 := eq_true p450
   replace q450 := eq_true q450
   try go_wp2
   replace zv := aM (Kd.R_drew zv.out)
   replace zq := aM (Kd.R_drew zq.out)
   replace za := aM (blk_drew za.out)
   replace zb := aM (blk_drew zb.out)
   replace zk := aM (blk_drew zk.out)
   replace HB := aM (below_drew1 HB.out)
   have p451 : 0 ≤ (x44_1 : Int) := of_decide_eq_true pD
   have q451 : x44_1 < (l0_2.length : Int) := of_decide_eq_true pD
   obtain ⟨ad451, e451, hx451_0⟩ := Kd.at_int zac.out x44_1 p451 q451
   have hw451_0 := hx451_0
   cases e451
   replace hx451_0 := (HB.out.cell (World.block_lt_of_cell? w _ hx451_0)).trans hx451_0
   replace p451 := eq_true p451
   replace q451 := eq_true q451
   have p42 : 0 ≤ ((ji39) : Int) := of_decide_eq_true pD
   have q42 : ((ji39) : Int) < ((zp.length : Int) : Int) := of_decide_eq_true pD
   obtain ⟨go42, za0, za1, za2, gl42, cl42, HG42⟩ := Kd.R_form zq.out (by omega)
   (first | cases za1 | (injection za1 with ea_ en_ ec_; (first | subst ea_ | (injection ea_ with ea_; subst ea_)); subst ec_; clear en_))
   have GB42 := aM za2
   have GG42 := aM HG42
   clear za2 gl42 HG42
   obtain ⟨hx42_0, hf42_0⟩ := Kd.R_celln 0 zq.out ((ji39) : Int) p42 q42
   replace p42 := eq_true p42
   replace q42 := eq_true q42
   have HP44 := Kd.R_putn zq.out ((ji39) : Int) (rd l0_2 x44_1)
   rw [← Ny452.out] at HP44
   have HQ44 := aM HP44
   clear HP44
   refine start_ (n := 12) (S := fun w' => w'.cell? ⟨zf, 0, none⟩ = some (.int .i64 a0_0) ∧ w'.cell? ⟨zf, 1, none⟩ = some (u450001) ∧ w'.cell? ⟨zf, 2, none⟩ = some (.slice (some ⟨go42, 0, none⟩) zp.length za0) ∧ w'.cell? ⟨zc, 0, none⟩ = some (.int .i64 a0_0) ∧ w'.cell? ⟨zc, 1, none⟩ = some (.slice (some ad450) l0_1.length c0_1) ∧ w'.cell? ⟨zc, 2, none⟩ = some (.slice (some ad451) l0_2.length c0_2) ∧ w'.cell? (ad451.add (x44_1).toNat) = some (.int .i64 (rd l0_2 x44_1))) (ds := [11]) (bm 12 0) (by kernel_rfl) rfl rfl ⟨(blk_cell zk.out 0).trans rfl, (blk_cell zk.out 1).trans rfl, (blk_cell zk.out 2).trans rfl, (blk_cell za.out 0).trans rfl, (blk_cell za.out 1).trans rfl, (blk_cell za.out 2).trans rfl, ((HB.out.cell (World.block_lt_of_cell? w _ hw451_0)).trans hw451_0)⟩ (fun hHeld => ?_); refine with_tabW view_Expand.tab14 view_Expand.bits14 (fun HT_ HW_ => ?_)
   generalize wr.drew = w43 at zv zq za zb zk HB GG42 HQ44 hf42_0 hx42_0 hx451_0 hHeld ⊢
   refine pP (i := 0) (N := some 51) (bm 12 1) rfl rfl HT_.out ?_
   refine pP (i := 2) (N := some 53) (bm 12 5) rfl rfl HT_.out ?_
   refine pP (i := 3) (N := some 54) (bm 12 13) rfl rfl HT_.out ?_
   refine pP (i := 4) (N := some 55) (bm 12 29) rfl rfl HT_.out ?_
   refine pP (i := 5) (N := some 56) (bm 12 61) rfl rfl HT_.out ?_
   refine pP (i := 7) (N := some 58) (bm 12 189) rfl rfl HT_.out ?_
   refine pT (i := 1) (N := some 52) (bm 12 191) rfl rfl HT_.out HW_.out hHeld (by rintro w' ⟨s0, s1, s2, s3, s4, s5, s6⟩; go_simp; with_reducible rfl) ?_
   refine pT (i := 6) (N := some 57) (bm 12 255) rfl rfl HT_.out HW_.out hHeld (by rintro w' ⟨s0, s1, s2, s3, s4, s5, s6⟩; go_simp; with_reducible rfl) ?_
   refine pP (i := 8) (N := some 59) (bm 12 511) rfl rfl HT_.out ?_
   refine pT (i := 9) (N := some 60) (bm 12 1023) rfl rfl HT_.out HW_.out hHeld (by rintro w' ⟨s0, s1, s2, s3, s4, s5, s6⟩; go_simp; with_reducible rfl) ?_
   refine pP (i := 10) (N := some 61) (bm 12 2047) rfl rfl HT_.out ?_
   refine last_ (i := 11) (N := none) (bm 12 4095) rfl rfl (one_of HT_.out (by kernel_rfl)) (by decide) (fun K hK => ?_)
   refine skip_ (w1 := ?_) (by rfl) rfl ?_ ?_
   rotate_left
   ·go_simp
    rfl
   refine hK.out _ _ ?_
   clear hK K
   refine done_ (done_of HT_.out (by kernel_rfl)) ?_
   try go_wp2
   go_roundg k1
   case measure => have := HK1.out; omega
   case rel => exact ⟨(wrap64 (x44_1 + 1)), (zt), (zaz), (u450001), (.slice (some ⟨go42, 0, none⟩) zp.length za0), (pF), H', ⟨by have := HK1.out; omega⟩, ⟨by (with_reducible repeat (first | apply rA | apply rN | apply rD)); exact Kd.R_mono (Kd.R_far (p := ⟨go42, ((ji39) : Int).toNat, none⟩) (Kd.R_mono zv.out (fun k_ hk => (⟨hk, fun e_ => hk (by rw [e_]; rfl)⟩ : _ ∧ k_ ≠ go42))) (fun _ hk => hk.2) (.int .i64 (rd l0_2 x44_1))) (fun _ hk => hk.1)⟩, ⟨pR HQ44.out⟩, ⟨by (with_reducible repeat (first | apply bN | apply bD | apply bA)); refine blk_far ?_ (by have h_ := Kd.R_ne zq.out za.out (by decide); intro e_; exact h_ (by rw [e_]; rfl)) _; (with_reducible repeat (first | apply bN | apply bD | apply bA)); exact za.out⟩, ⟨by (with_reducible repeat (first | apply bN | apply bD | apply bA)); refine blk_far ?_ (by have h_ := Kd.R_ne zq.out zb.out (by decide); intro e_; exact h_ (by rw [e_]; rfl)) _; (with_reducible repeat (first | apply bN | apply bD | apply bA)); exact zb.out⟩, ⟨by (with_reducible repeat (first | apply bN | apply bD | apply bA)); refine blk_far ?_ (by have h_ := Kd.R_ne zq.out zk.out (by decide); intro e_; exact h_ (by rw [e_]; rfl)) _; (with_reducible repeat (first | apply bN | apply bD | apply bA)); exact zk.out⟩, ⟨qB4 HB GB42 ze zg zm⟩⟩
end Go.Proofs.Ytjbpekblcecneaa.Q
