-- By wip/gprint.py (this session's), out of the kit's print.py.
import Derived.Test.YticcamciaohepaaQx0
import Derived.Test.YticcamciaohepaaQxfRef19With
import Derived.Test.YticcamciaohepaaQxfRef20All
import Derived.Test.YticcamciaohepaaQxfRef20Place
namespace Go.Proofs.Yticcamciaohepaa.Q
open Go.RowKit Go.Proofs.YticcamciaohepaaW.PrintWords Go.Proofs.YticcamciaohepaaW.PrintLast Go.Proofs.YticcamciaohepaaW.PrintMore
attribute [local go_sem] max2_int min2_int max_two min_two max_three min_three max_four min_four   -- for this text's walks alone
set_option linter.unusedVariables false
set_option linter.unusedSimpArgs false

/-! ### gradineref29_put: function 15 -/
mutual
def gradineref29_put.l0 : Nat → List Int → List Int → Int → Int → Int → Int → Int → Int → Int → Int → Int → Int → Bool → List Int → Option (List Int × List Int × List Int × Int)
 | 0, _, _, _, _, _, _, _, _, _, _, _, _, _, _ => none
 | k + 1, x0, x6, x38, x39, zs, z0, z5, z6, z7, z8, z9, zaa, zab, zv => if x39 < x38 then (if 0 ≤ x39 then (if x39 < (zv.length : Int) then (if (rd zv x39) < 0 then (some (([] : List Int), ([] : List Int), ([] : List Int), 11)) else (if (rd zv x39) ≥ z0 then (some (([] : List Int), ([] : List Int), ([] : List Int), 11)) else (gradineref29_put.l0 k x0 x6 x38 (wrap64 (x39 + 1)) zs z0 z5 z6 z7 z8 z9 zaa zab zv))) else (none)) else (none)) else ((gradineref20_All.f k x0).bind fun zm => (gradineref29_put.l1 k x0 zm (zm.length : Int) 0 zs z0 z5 z6 z7 z8 z9 zaa zab zv x6 ([] : List Int)))
def gradineref29_put.l1 : Nat → List Int → List (List Int) → Int → Int → Int → Int → Int → Int → Int → Int → Int → Int → Bool → List Int → List Int → List Int → Option (List Int × List Int × List Int × Int)
 | 0, _, _, _, _, _, _, _, _, _, _, _, _, _, _, _, _ => none
 | k + 1, x0, x10, x65, x66, zs, z0, z5, z6, z7, z8, z9, zaa, zab, zv, zae, zaf => if x66 < x65 then ((some (([] : List Int) : List Int)).bind fun zag => (if 0 ≤ x66 then (if x66 < (x10.length : Int) then (if zag.length + (rd_L1 x10 x66).length < 17592186044416 then ((some (zag ++ (rd_L1 x10 x66) : List Int)).bind fun zg => (if 0 ≤ zs then (if zs < (zg.length : Int) then (if 0 ≤ (rd zg zs) then (if (rd zg zs) < (zv.length : Int) then ((gradineref20_Place.f k zae (zg.set (zs : Int).toNat (rd zv (rd zg zs)))).bind fun z4 => (if zaf.length < 17592186044416 then (gradineref29_put.l1 k x0 x10 x65 (wrap64 (x66 + 1)) zs z0 z5 z6 z7 z8 z9 zaa zab zv zae (zaf ++ [z4])) else (none))) else (none)) else (none)) else (none)) else (none))) else (none)) else (none)) else (none))) else (some (zae, ([] : List Int), zaf, 0))
end
def gradineref29_put.f (k : Nat) (l0 : List Int) (a1_0 : Int) (a1_1 : Int) (a1_2 : Int) (a1_3 : Int) (a1_4 : Int) (a1_5 : Int) (a1_6 : Int) (a1_7 : Int) (a1_8 : Bool) (l1_9 : List Int) : Option (List Int × List Int × List Int × Int) := (gradineref19_With.f k l0 a1_0 a1_1).bind fun bt526 => (if bt526.2 = 0 then (if 0 ≤ a1_0 then (if a1_0 < (l0.length : Int) then (if (l1_9.length : Int) = (rd l0 a1_0) then (gradineref29_put.l0 k l0 bt526.1 (l1_9.length : Int) 0 a1_0 a1_1 a1_2 a1_3 a1_4 a1_5 a1_6 a1_7 a1_8 l1_9) else (some (([] : List Int), ([] : List Int), ([] : List Int), 8))) else (none)) else (none)) else (some (([] : List Int), ([] : List Int), ([] : List Int), bt526.2)))
def gradineref29_put.T4 : Bool × List (List Nat × List Nat) := (true, [([], []), ([0], [0]), ([1], [1]), ([], []), ([], []), ([4], [4]), ([3, 5], [3, 5]), ([6], [6]), ([2, 7], [2, 7])])
def gradineref29_put.B4 : List Nat := [0, 1, 3, 0, 0, 16, 56, 120, 255]
theorem gradineref29_put.tab4 : rtab .any (opsOf Try.f15 4) = gradineref29_put.T4 := by kernel_rfl
theorem gradineref29_put.bits4 : waitsOk gradineref29_put.T4.2 gradineref29_put.B4 = true := by kernel_rfl
def gradineref29_put.T9 : Bool × List (List Nat × List Nat) := (true, [([], []), ([0], [0]), ([], []), ([1, 2], [1, 2]), ([3], [3]), ([4], [4]), ([5], [5]), ([6], [6]), ([7, 6], [6, 7]), ([6], [6]), ([8, 9, 6], [6, 8, 9]), ([10, 6], [6, 10]), ([6], [6]), ([12, 6], [6, 12]), ([11, 13, 6], [6, 11, 13]), ([6, 14], [6, 14])])
def gradineref29_put.B9 : List Nat := [0, 1, 0, 7, 15, 31, 63, 127, 255, 127, 1023, 2047, 127, 4223, 16383, 32767]
theorem gradineref29_put.tab9 : rtab .any (opsOf Try.f15 9) = gradineref29_put.T9 := by kernel_rfl
theorem gradineref29_put.bits9 : waitsOk gradineref29_put.T9.2 gradineref29_put.B9 = true := by kernel_rfl
def gradineref29_put.T18 : Bool × List (List Nat × List Nat) := (true, [([], []), ([], []), ([1], [1]), ([], []), ([3], [3]), ([], []), ([], []), ([6], [6]), ([5, 7], [5, 7]), ([8], [8]), ([4, 9], [4, 9]), ([10], [10]), ([0, 2, 0, 1, 2, 3, 4, 5, 6, 7, 8, 9, 10, 11], [0, 2]), ([12, 11, 0, 1, 2, 3, 4, 5, 6, 7, 8, 9, 10, 11], [11, 12])])
def gradineref29_put.B18 : List Nat := [0, 0, 2, 0, 8, 0, 0, 64, 224, 480, 1016, 2040, 4095, 8191]
theorem gradineref29_put.tab18 : rtab .any (opsOf Try.f15 18) = gradineref29_put.T18 := by kernel_rfl
theorem gradineref29_put.bits18 : waitsOk gradineref29_put.T18.2 gradineref29_put.B18 = true := by kernel_rfl
def gradineref29_put.T19 : Bool × List (List Nat × List Nat) := (true, [([], []), ([0], [0]), ([], []), ([], []), ([2, 3], [2, 3]), ([4], [4]), ([1, 5, 4], [1, 5]), ([0, 1, 2, 3, 4, 5, 6], []), ([7, 6, 6, 0, 1, 2, 3, 4, 5, 6], [6, 7])])
def gradineref29_put.B19 : List Nat := [0, 1, 0, 0, 12, 28, 63, 127, 255]
theorem gradineref29_put.tab19 : rtab .any (opsOf Try.f15 19) = gradineref29_put.T19 := by kernel_rfl
theorem gradineref29_put.bits19 : waitsOk gradineref29_put.T19.2 gradineref29_put.B19 = true := by kernel_rfl
set_option maxHeartbeats 8000000 in
set_option maxRecDepth 100000 in
theorem gradineref29_put.calls (k : Nat) (A0 : Option Addr) (c0 : Nat) (l0 : List Int) (a1_0 : Int) (a1_1 : Int) (a1_2 : Int) (a1_3 : Int) (a1_4 : Int) (a1_5 : Int) (a1_6 : Int) (a1_7 : Int) (a1_8 : Bool) (A1_9 : Option Addr) (c1_9 : Nat) (l1_9 : List Int) (r1 : List Int) (r2 : List Int) (r3 : List Int) (r4 : Int) (w : World) (hr0 : Kd.C (Kd.int .i64) w A0 l0.length l0) (hc0 : l0.length ≤ c0) (hr1_9 : Kd.C (Kd.int .i64) w A1_9 l1_9.length l1_9) (hc1_9 : l1_9.length ≤ c1_9) (h : gradineref29_put.f k l0 a1_0 a1_1 a1_2 a1_3 a1_4 a1_5 a1_6 a1_7 a1_8 l1_9 = some (r1, r2, r3, r4)) :
  Calls Try.prog 15 #[.slice A0 l0.length c0, .agg #[.int .i64 a1_0, .int .i64 a1_1, .int .i64 a1_2, .int .i64 a1_3, .int .i64 a1_4, .int .i64 a1_5, .int .i64 a1_6, .int .i64 a1_7, .bool a1_8, .slice A1_9 l1_9.length c1_9]] w fun e w' => ∃ v0_ v1_ v2_ : Value, e = .returned (.tuple #[.agg #[v0_, v1_, v2_], .int .i64 r4]) ∧ Kd.R (Kd.int .i64) 3 w' w.heap.size (fun k_ => some k_ ≠ (v1_ : Value).ownBlock ∧ some k_ ≠ (v2_ : Value).ownBlock) v0_ r1 ∧ Kd.R (Kd.int .i64) 3 w' w.heap.size (fun k_ => some k_ ≠ (v0_ : Value).ownBlock ∧ some k_ ≠ (v2_ : Value).ownBlock) v1_ r2 ∧ Kd.R (Kd.int .i64) 3 w' w.heap.size (fun k_ => some k_ ≠ (v0_ : Value).ownBlock ∧ some k_ ≠ (v1_ : Value).ownBlock) v2_ r3 ∧ Below w.heap.size w w' := by
 have hu24 := Try.underlying24
 have hu29 := Try.underlying29
 have HR0 := aM hr0
 have HC0 := aM hc0
 clear hr0 hc0
 have zad := aM hr1_9
 have HC1_9 := aM hc1_9
 clear hr1_9 hc1_9
 have HB := aM (Below.refl w.heap.size w)
 have H : ((gradineref19_With.f k l0 a1_0 a1_1).bind fun bt526 => (if bt526.2 = 0 then (if 0 ≤ a1_0 then (if a1_0 < (l0.length : Int) then (if (l1_9.length : Int) = (rd l0 a1_0) then (gradineref29_put.l0 k l0 bt526.1 (l1_9.length : Int) 0 a1_0 a1_1 a1_2 a1_3 a1_4 a1_5 a1_6 a1_7 a1_8 l1_9) else (some (([] : List Int), ([] : List Int), ([] : List Int), 8))) else (none)) else (none)) else (some (([] : List Int), ([] : List Int), ([] : List Int), bt526.2)))) = some (r1, r2, r3, r4) := h
 clear h
 replace H := Option.bind_eq_some_iff.mp H
 obtain ⟨⟨zk, zah⟩, A30, H⟩ := H
 try dsimp only at H
 have A3 := aM A30
 clear A30
 by_cases c4 : zah = 0
 rotate_left
 ·rw [if_neg c4] at H
  have za0 : (zah == 0) = false := beq_eq_false_iff_ne.mpr c4
  have za1 : (zah != 0) = true := bne_iff_ne.mpr c4
  simp only [Option.some.injEq, Prod.mk.injEq] at H
  obtain ⟨rfl, rfl, rfl, rfl⟩ := H
  go_enter Try.func15, Try.ntmps15
  go_wp2_with (first | ((with_reducible refine gate_dst (N := 3) rfl ?_); refine box_event ?hg (N := 3) ?hd (cs := #[.int .i64 a1_0, .int .i64 a1_1, .int .i64 a1_2, .int .i64 a1_3, .int .i64 a1_4, .int .i64 a1_5, .int .i64 a1_6, .int .i64 a1_7, .bool a1_8, .slice A1_9 l1_9.length c1_9]) (t := 24) ?hr ?_; (case hd => rfl); (case hg => rfl); (case hr => first | (go_simp; done) | (go_simp; rfl)); intro zb hg w72 hbox hb; have za := aM (hbox); have zai := gE (w := w) hg (qB HB); have zh := zai; replace HB := bS (qB HB) hb; clear hb hbox hg) | ((with_reducible refine gate_dst (N := 4) rfl ?_); refine box_event ?hg (N := 4) ?hd (cs := #[.slice none 0 0, .slice none 0 0, .slice none 0 0]) (t := 29) ?hr ?_; (case hd => rfl); (case hg => rfl); (case hr => first | (go_simp; done) | (go_simp; rfl)); intro zn hg w73 hbox hb; have zc := aM (hbox); have zaj := gE (w := w) hg (qB1 HB zh); have zj := zaj; replace HB := bS (qB1 HB zh) hb; have zq := nL hg za; have zr := nG hg za; replace za := bK za hb; clear hb hbox hg; have hnb74 := zq.out; have hnc74 := zr.out; obtain ⟨hcz75_0, hcz75_1, hcz75_2, hcz75_3, hcz75_4, hcz75_5, hcz75_6, hcz75_7, hcz75_8, hcz75_9, hfz75_0, hfz75_1, hfz75_2, hfz75_3, hfz75_4, hfz75_5, hfz75_6, hfz75_7, hfz75_8, hfz75_9⟩ := blk10 za.out) | ((with_reducible refine gate_callee (f := 29) rfl ?_); refine goesL_ (some 19) rfl rfl Try.func29 (by kernel_rfl) rfl #[.slice A0 l0.length c0, .int .i64 a1_0, .int .i64 a1_1] rfl pA ?_; (with_reducible refine (gradineref19_With.calls k _ _ l0 a1_0 a1_1 zk zah _ ?s1 ?s2 A3.out).mono ?_); (case s1 => exact sC HR0 HB); (case s2 => exact HC0.out); rintro e w76 ⟨zaz, rfl, ho0, hb⟩; refine ⟨_, rfl, ?_⟩; have z1 := aM (Kd.R_lower ho0 (below_size (qB2 HB zh zj))); replace za := bK za hb; replace zc := bK zc hb; replace HB := bS (qB2 HB zh zj) hb; (try clear hb); (try clear hk); (try clear hi); (try clear ho0); obtain ⟨hcz77_0, hcz77_1, hcz77_2, hfz77_0, hfz77_1, hfz77_2⟩ := blk3 zc.out))
  refine bodyPost_ret (results_ct rfl _ _ zn 29 #[.slice none 0 0, .slice none 0 0, .slice none 0 0] (0, 0) _ rfl (by exact P3 zc) Try.underlying29 rfl (by kernel_rfl)) rfl ?_
  exact ⟨_, _, _, pE, pN, pN, pN, qB2 HB zh zj⟩

 rw [if_pos c4] at H
 have za0 : (zah == 0) = true := beq_iff_eq.mpr c4
 have za1 : (zah != 0) = false := bne_eq_false_iff_eq.mpr c4
 clear c4
 by_cases c5 : 0 ≤ a1_0
 rotate_left
 ·rw [if_neg c5] at H
  exact absurd H (by simp)
 rw [if_pos c5] at H
 have c5b0 : decide (0 ≤ a1_0) = true := decide_eq_true c5
 clear c5
 by_cases c6 : a1_0 < (l0.length : Int)
 rotate_left
 ·rw [if_neg c6] at H
  exact absurd H (by simp)
 rw [if_pos c6] at H
 have c6b0 : decide (a1_0 < (l0.length : Int)) = true := decide_eq_true c6
 clear c6
 by_cases c7 : (l1_9.length : Int) = (rd l0 a1_0)
 rotate_left
 ·rw [if_neg c7] at H
  have za2 : ((l1_9.length : Int) == (rd l0 a1_0)) = false := beq_eq_false_iff_ne.mpr c7
  have za3 : ((l1_9.length : Int) != (rd l0 a1_0)) = true := bne_iff_ne.mpr c7
  simp only [Option.some.injEq, Prod.mk.injEq] at H
  obtain ⟨rfl, rfl, rfl, rfl⟩ := H
  go_enter Try.func15, Try.ntmps15
  try go_wp2_with (first | ((with_reducible refine gate_dst (N := 3) rfl ?_); refine box_event ?hg (N := 3) ?hd (cs := #[.int .i64 a1_0, .int .i64 a1_1, .int .i64 a1_2, .int .i64 a1_3, .int .i64 a1_4, .int .i64 a1_5, .int .i64 a1_6, .int .i64 a1_7, .bool a1_8, .slice A1_9 l1_9.length c1_9]) (t := 24) ?hr ?_; (case hd => rfl); (case hg => rfl); (case hr => first | (go_simp; done) | (go_simp; rfl)); intro zb hg w65 hbox hb; have za := aM (hbox); have zai := gE (w := w) hg (qB HB); have zh := zai; replace HB := bS (qB HB) hb; clear hb hbox hg) | ((with_reducible refine gate_dst (N := 4) rfl ?_); refine box_event ?hg (N := 4) ?hd (cs := #[.slice none 0 0, .slice none 0 0, .slice none 0 0]) (t := 29) ?hr ?_; (case hd => rfl); (case hg => rfl); (case hr => first | (go_simp; done) | (go_simp; rfl)); intro zn hg w66 hbox hb; have zc := aM (hbox); have zaj := gE (w := w) hg (qB1 HB zh); have zj := zaj; replace HB := bS (qB1 HB zh) hb; have zq := nL hg za; have zr := nG hg za; replace za := bK za hb; clear hb hbox hg; have hnb67 := zq.out; have hnc67 := zr.out; obtain ⟨hcz68_0, hcz68_1, hcz68_2, hcz68_3, hcz68_4, hcz68_5, hcz68_6, hcz68_7, hcz68_8, hcz68_9, hfz68_0, hfz68_1, hfz68_2, hfz68_3, hfz68_4, hfz68_5, hfz68_6, hfz68_7, hfz68_8, hfz68_9⟩ := blk10 za.out) | ((with_reducible refine gate_callee (f := 29) rfl ?_); refine goesL_ (some 19) rfl rfl Try.func29 (by kernel_rfl) rfl #[.slice A0 l0.length c0, .int .i64 a1_0, .int .i64 a1_1] rfl pA ?_; (with_reducible refine (gradineref19_With.calls k _ _ l0 a1_0 a1_1 zk zah _ ?s1 ?s2 A3.out).mono ?_); (case s1 => exact sC HR0 HB); (case s2 => exact HC0.out); rintro e w69 ⟨zaz, rfl, ho0, hb⟩; refine ⟨_, rfl, ?_⟩; have z1 := aM (Kd.R_lower ho0 (below_size (qB2 HB zh zj))); replace za := bK za hb; replace zc := bK zc hb; replace HB := bS (qB2 HB zh zj) hb; (try clear hb); (try clear hk); (try clear hi); (try clear ho0)))
  replace z1 := aM (Kd.R_drew z1.out)
  replace za := aM (blk_drew za.out)
  replace zc := aM (blk_drew zc.out)
  replace HB := aM (below_drew1 HB.out)
  have p530 : 0 ≤ (a1_0 : Int) := of_decide_eq_true pD
  have q530 : a1_0 < (l0.length : Int) := of_decide_eq_true pD
  obtain ⟨ad530, e530, hx530_0⟩ := Kd.at_int HR0.out a1_0 p530 q530
  have hw530_0 := hx530_0
  cases e530
  replace hx530_0 := (HB.out.cell (World.block_lt_of_cell? w _ hx530_0)).trans hx530_0
  replace p530 := eq_true p530
  replace q530 := eq_true q530
  refine start_ (n := 9) (S := fun w' => w'.cell? ⟨zb, 0, none⟩ = some (.int .i64 a1_0) ∧ w'.cell? ⟨zb, 1, none⟩ = some (.int .i64 a1_1) ∧ w'.cell? ⟨zb, 2, none⟩ = some (.int .i64 a1_2) ∧ w'.cell? ⟨zb, 3, none⟩ = some (.int .i64 a1_3) ∧ w'.cell? ⟨zb, 4, none⟩ = some (.int .i64 a1_4) ∧ w'.cell? ⟨zb, 5, none⟩ = some (.int .i64 a1_5) ∧ w'.cell? ⟨zb, 6, none⟩ = some (.int .i64 a1_6) ∧ w'.cell? ⟨zb, 7, none⟩ = some (.int .i64 a1_7) ∧ w'.cell? ⟨zb, 8, none⟩ = some (.bool a1_8) ∧ w'.cell? ⟨zb, 9, none⟩ = some (.slice A1_9 l1_9.length c1_9) ∧ w'.cell? (ad530.add (a1_0).toNat) = some (.int .i64 (rd l0 a1_0))) (ds := []) (bm 9 0) (by kernel_rfl) rfl rfl ⟨(blk_cell za.out 0).trans rfl, (blk_cell za.out 1).trans rfl, (blk_cell za.out 2).trans rfl, (blk_cell za.out 3).trans rfl, (blk_cell za.out 4).trans rfl, (blk_cell za.out 5).trans rfl, (blk_cell za.out 6).trans rfl, (blk_cell za.out 7).trans rfl, (blk_cell za.out 8).trans rfl, (blk_cell za.out 9).trans rfl, ((HB.out.cell (World.block_lt_of_cell? w _ hw530_0)).trans hw530_0)⟩ (fun hHeld => ?_); refine with_tabW gradineref29_put.tab4 gradineref29_put.bits4 (fun HT_ HW_ => ?_)
  generalize w69.drew = w70 at z1 za zc HB hx530_0 hHeld ⊢
  refine pP (i := 0) (N := some 26) (bm 9 1) rfl rfl HT_.out ?_
  refine pP (i := 3) (N := some 29) (bm 9 9) rfl rfl HT_.out ?_
  refine pP (i := 4) (N := some 30) (bm 9 25) rfl rfl HT_.out ?_
  refine pT (i := 1) (N := some 27) (bm 9 27) rfl rfl HT_.out HW_.out hHeld (by rintro w' ⟨s0, s1, s2, s3, s4, s5, s6, s7, s8, s9, s10⟩; go_simp; with_reducible rfl) ?_
  refine pP (i := 2) (N := some 28) (bm 9 31) rfl rfl HT_.out ?_
  refine pT (i := 5) (N := some 31) (bm 9 63) rfl rfl HT_.out HW_.out hHeld (by rintro w' ⟨s0, s1, s2, s3, s4, s5, s6, s7, s8, s9, s10⟩; go_simp; with_reducible rfl) ?_
  refine pP (i := 6) (N := some 32) (bm 9 127) rfl rfl HT_.out ?_
  refine pT (i := 7) (N := some 33) (bm 9 255) rfl rfl HT_.out HW_.out hHeld (by rintro w' ⟨s0, s1, s2, s3, s4, s5, s6, s7, s8, s9, s10⟩; go_simp; with_reducible rfl) ?_
  refine pP (i := 8) (N := some 34) (bm 9 511) rfl rfl HT_.out ?_
  refine done_ (done_of HT_.out (by kernel_rfl)) ?_
  obtain ⟨hcz71_0, hcz71_1, hcz71_2, hfz71_0, hfz71_1, hfz71_2⟩ := blk3 zc.out
  try go_wp2
  refine bodyPost_ret (results_ct rfl _ _ zn 29 #[.slice none 0 0, .slice none 0 0, .slice none 0 0] (0, 0) _ rfl (by exact P3 zc) Try.underlying29 rfl (by kernel_rfl)) rfl ?_
  exact ⟨_, _, _, pE, pN, pN, pN, qB2 HB zh zj⟩
 rw [if_pos c7] at H
 have za2 : ((l1_9.length : Int) == (rd l0 a1_0)) = true := beq_iff_eq.mpr c7
 have za3 : ((l1_9.length : Int) != (rd l0 a1_0)) = false := bne_eq_false_iff_eq.mpr c7
 clear c7
 have H' := aM H
 clear H
 go_enter Try.func15, Try.ntmps15
 try go_wp2_with (first | ((with_reducible refine gate_dst (N := 3) rfl ?_); refine box_event ?hg (N := 3) ?hd (cs := #[.int .i64 a1_0, .int .i64 a1_1, .int .i64 a1_2, .int .i64 a1_3, .int .i64 a1_4, .int .i64 a1_5, .int .i64 a1_6, .int .i64 a1_7, .bool a1_8, .slice A1_9 l1_9.length c1_9]) (t := 24) ?hr ?_; (case hd => rfl); (case hg => rfl); (case hr => first | (go_simp; done) | (go_simp; rfl)); intro zb hg w8 hbox hb; have za := aM (hbox); have zai := gE (w := w) hg (qB HB); have zh := zai; replace HB := bS (qB HB) hb; clear hb hbox hg) | ((with_reducible refine gate_dst (N := 4) rfl ?_); refine box_event ?hg (N := 4) ?hd (cs := #[.slice none 0 0, .slice none 0 0, .slice none 0 0]) (t := 29) ?hr ?_; (case hd => rfl); (case hg => rfl); (case hr => first | (go_simp; done) | (go_simp; rfl)); intro zn hg w9 hbox hb; have zc := aM (hbox); have zaj := gE (w := w) hg (qB1 HB zh); have zj := zaj; replace HB := bS (qB1 HB zh) hb; have zq := nL hg za; have zr := nG hg za; replace za := bK za hb; clear hb hbox hg; have hnb10 := zq.out; have hnc10 := zr.out; obtain ⟨hcz11_0, hcz11_1, hcz11_2, hcz11_3, hcz11_4, hcz11_5, hcz11_6, hcz11_7, hcz11_8, hcz11_9, hfz11_0, hfz11_1, hfz11_2, hfz11_3, hfz11_4, hfz11_5, hfz11_6, hfz11_7, hfz11_8, hfz11_9⟩ := blk10 za.out) | ((with_reducible refine gate_callee (f := 29) rfl ?_); refine goesL_ (some 19) rfl rfl Try.func29 (by kernel_rfl) rfl #[.slice A0 l0.length c0, .int .i64 a1_0, .int .i64 a1_1] rfl pA ?_; (with_reducible refine (gradineref19_With.calls k _ _ l0 a1_0 a1_1 zk zah _ ?s1 ?s2 A3.out).mono ?_); (case s1 => exact sC HR0 HB); (case s2 => exact HC0.out); rintro e w12 ⟨zaz, rfl, ho0, hb⟩; refine ⟨_, rfl, ?_⟩; have z1 := aM (Kd.R_lower ho0 (below_size (qB2 HB zh zj))); replace za := bK za hb; replace zc := bK zc hb; replace HB := bS (qB2 HB zh zj) hb; (try clear hb); (try clear hk); (try clear hi); (try clear ho0)))
 replace z1 := aM (Kd.R_drew z1.out)
 replace za := aM (blk_drew za.out)
 replace zc := aM (blk_drew zc.out)
 replace HB := aM (below_drew1 HB.out)
 have p530 : 0 ≤ (a1_0 : Int) := of_decide_eq_true pD
 have q530 : a1_0 < (l0.length : Int) := of_decide_eq_true pD
 obtain ⟨ad530, e530, hx530_0⟩ := Kd.at_int HR0.out a1_0 p530 q530
 have hw530_0 := hx530_0
 cases e530
 replace hx530_0 := (HB.out.cell (World.block_lt_of_cell? w _ hx530_0)).trans hx530_0
 replace p530 := eq_true p530
 replace q530 := eq_true q530
 refine start_ (n := 9) (S := fun w' => w'.cell? ⟨zb, 0, none⟩ = some (.int .i64 a1_0) ∧ w'.cell? ⟨zb, 1, none⟩ = some (.int .i64 a1_1) ∧ w'.cell? ⟨zb, 2, none⟩ = some (.int .i64 a1_2) ∧ w'.cell? ⟨zb, 3, none⟩ = some (.int .i64 a1_3) ∧ w'.cell? ⟨zb, 4, none⟩ = some (.int .i64 a1_4) ∧ w'.cell? ⟨zb, 5, none⟩ = some (.int .i64 a1_5) ∧ w'.cell? ⟨zb, 6, none⟩ = some (.int .i64 a1_6) ∧ w'.cell? ⟨zb, 7, none⟩ = some (.int .i64 a1_7) ∧ w'.cell? ⟨zb, 8, none⟩ = some (.bool a1_8) ∧ w'.cell? ⟨zb, 9, none⟩ = some (.slice A1_9 l1_9.length c1_9) ∧ w'.cell? (ad530.add (a1_0).toNat) = some (.int .i64 (rd l0 a1_0))) (ds := []) (bm 9 0) (by kernel_rfl) rfl rfl ⟨(blk_cell za.out 0).trans rfl, (blk_cell za.out 1).trans rfl, (blk_cell za.out 2).trans rfl, (blk_cell za.out 3).trans rfl, (blk_cell za.out 4).trans rfl, (blk_cell za.out 5).trans rfl, (blk_cell za.out 6).trans rfl, (blk_cell za.out 7).trans rfl, (blk_cell za.out 8).trans rfl, (blk_cell za.out 9).trans rfl, ((HB.out.cell (World.block_lt_of_cell? w _ hw530_0)).trans hw530_0)⟩ (fun hHeld => ?_); refine with_tabW gradineref29_put.tab4 gradineref29_put.bits4 (fun HT_ HW_ => ?_)
 generalize w12.drew = w13 at z1 za zc HB hx530_0 hHeld ⊢
 refine pP (i := 0) (N := some 26) (bm 9 1) rfl rfl HT_.out ?_
 refine pP (i := 3) (N := some 29) (bm 9 9) rfl rfl HT_.out ?_
 refine pP (i := 4) (N := some 30) (bm 9 25) rfl rfl HT_.out ?_
 refine pT (i := 1) (N := some 27) (bm 9 27) rfl rfl HT_.out HW_.out hHeld (by rintro w' ⟨s0, s1, s2, s3, s4, s5, s6, s7, s8, s9, s10⟩; go_simp; with_reducible rfl) ?_
 refine pP (i := 2) (N := some 28) (bm 9 31) rfl rfl HT_.out ?_
 refine pT (i := 5) (N := some 31) (bm 9 63) rfl rfl HT_.out HW_.out hHeld (by rintro w' ⟨s0, s1, s2, s3, s4, s5, s6, s7, s8, s9, s10⟩; go_simp; with_reducible rfl) ?_
 refine pP (i := 6) (N := some 32) (bm 9 127) rfl rfl HT_.out ?_
 refine pT (i := 7) (N := some 33) (bm 9 255) rfl rfl HT_.out HW_.out hHeld (by rintro w' ⟨s0, s1, s2, s3, s4, s5, s6, s7, s8, s9, s10⟩; go_simp; with_reducible rfl) ?_
 refine pP (i := 8) (N := some 34) (bm 9 511) rfl rfl HT_.out ?_
 refine done_ (done_of HT_.out (by kernel_rfl)) ?_
 obtain ⟨hcz14_0, hcz14_1, hcz14_2, hcz14_3, hcz14_4, hcz14_5, hcz14_6, hcz14_7, hcz14_8, hcz14_9, hfz14_0, hfz14_1, hfz14_2, hfz14_3, hfz14_4, hfz14_5, hfz14_6, hfz14_7, hfz14_8, hfz14_9⟩ := blk10 za.out
 try go_wp2
 go_loopg [39] k (fun kq v39 w' => ∃ (x39_1 : Int), v39 = .int .i64 x39_1 ∧ Aside0 (gradineref29_put.l0 kq l0 zk (l1_9.length : Int) x39_1 a1_0 a1_1 a1_2 a1_3 a1_4 a1_5 a1_6 a1_7 a1_8 l1_9 = some (r1, r2, r3, r4)) ∧ Aside0 (kq ≤ k) ∧ Aside0 (Kd.R (Kd.int .i64) 3 w' w.heap.size (fun _ => True) zaz zk) ∧ Aside0 (w'.heap[zb]? = some (.cells #[.int .i64 a1_0, .int .i64 a1_1, .int .i64 a1_2, .int .i64 a1_3, .int .i64 a1_4, .int .i64 a1_5, .int .i64 a1_6, .int .i64 a1_7, .bool a1_8, (.slice A1_9 l1_9.length c1_9)] 24 (0, 0))) ∧ Aside0 (w'.heap[zn]? = some (.cells #[(.slice none 0 0), (.slice none 0 0), (.slice none 0 0)] 29 (0, 0))) ∧ Aside0 (Below w.heap.size w w'))
 case atStart => exact ⟨(0), (pF), H', ⟨Nat.le_refl _⟩, ⟨pR z1.out⟩, ⟨pK za.out⟩, ⟨pK zc.out⟩, ⟨qB2 HB zh zj⟩⟩
 case round =>
  clear H'
  try clear za0
  try clear za1
  try clear c5b0
  try clear c6b0
  try clear za2
  try clear za3
  try clear hcz11_0 hcz11_1 hcz11_2 hcz11_3 hcz11_4 hcz11_5 hcz11_6 hcz11_7 hcz11_8 hcz11_9 hcz14_0 hcz14_1 hcz14_2 hcz14_3 hcz14_4 hcz14_5 hcz14_6 hcz14_7 hcz14_8 hcz14_9 hfz11_0 hfz11_1 hfz11_2 hfz11_3 hfz11_4 hfz11_5 hfz11_6 hfz11_7 hfz11_8 hfz11_9 hfz14_0 hfz14_1 hfz14_2 hfz14_3 hfz14_4 hfz14_5 hfz14_6 hfz14_7 hfz14_8 hfz14_9
  try clear hx530_0
  try clear p530
  try clear q530
  obtain ⟨x39_1, rfl, HA, HK1, zz, za, zc, HB⟩ := hrel
  cases gk with
  | zero => exact absurd HA.out (by simp [gradineref29_put.l0])
  | succ k1 =>
   have H := HA.out
   clear HA
   simp only [gradineref29_put.l0] at H
   by_cases c15 : x39_1 < (l1_9.length : Int)
   ·rw [if_pos c15] at H
    have zav : decide (x39_1 < (l1_9.length : Int)) = true := decide_eq_true c15
    clear c15
    by_cases c16 : 0 ≤ x39_1
    rotate_left
    ·rw [if_neg c16] at H
     exact absurd H (by simp)
    rw [if_pos c16] at H
    have c16b0 : decide (0 ≤ x39_1) = true := decide_eq_true c16
    clear c16
    by_cases c17 : x39_1 < (l1_9.length : Int)
    rotate_left
    ·rw [if_neg c17] at H
     exact absurd H (by simp)
    rw [if_pos c17] at H
    have c17b0 : decide (x39_1 < (l1_9.length : Int)) = true := decide_eq_true c17
    clear c17
    by_cases c18 : (rd l1_9 x39_1) < 0
    ·rw [if_pos c18] at H
     have c18b0 : decide ((rd l1_9 x39_1) < 0) = true := decide_eq_true c18
     clear c18
     simp only [Option.some.injEq, Prod.mk.injEq] at H
     obtain ⟨rfl, rfl, rfl, rfl⟩ := H
     try go_wp2
     replace zz := aM (Kd.R_drew zz.out)
     replace za := aM (blk_drew za.out)
     replace zc := aM (blk_drew zc.out)
     replace HB := aM (below_drew1 HB.out)
     have p531 : 0 ≤ (x39_1 : Int) := of_decide_eq_true pD
     have q531 : x39_1 < (l1_9.length : Int) := of_decide_eq_true pD
     obtain ⟨ad531, e531, hx531_0⟩ := Kd.at_int zad.out x39_1 p531 q531
     have hw531_0 := hx531_0
     cases e531
     replace hx531_0 := (HB.out.cell (World.block_lt_of_cell? w _ hx531_0)).trans hx531_0
     replace p531 := eq_true p531
     replace q531 := eq_true q531
     refine start_ (n := 16) (S := fun w' => w'.cell? ⟨zb, 0, none⟩ = some (.int .i64 a1_0) ∧ w'.cell? ⟨zb, 1, none⟩ = some (.int .i64 a1_1) ∧ w'.cell? ⟨zb, 2, none⟩ = some (.int .i64 a1_2) ∧ w'.cell? ⟨zb, 3, none⟩ = some (.int .i64 a1_3) ∧ w'.cell? ⟨zb, 4, none⟩ = some (.int .i64 a1_4) ∧ w'.cell? ⟨zb, 5, none⟩ = some (.int .i64 a1_5) ∧ w'.cell? ⟨zb, 6, none⟩ = some (.int .i64 a1_6) ∧ w'.cell? ⟨zb, 7, none⟩ = some (.int .i64 a1_7) ∧ w'.cell? ⟨zb, 8, none⟩ = some (.bool a1_8) ∧ w'.cell? ⟨zb, 9, none⟩ = some (.slice (some ad531) l1_9.length c1_9) ∧ w'.cell? (ad531.add (x39_1).toNat) = some (.int .i64 (rd l1_9 x39_1))) (ds := []) (bm 16 0) (by kernel_rfl) rfl rfl ⟨(blk_cell za.out 0).trans rfl, (blk_cell za.out 1).trans rfl, (blk_cell za.out 2).trans rfl, (blk_cell za.out 3).trans rfl, (blk_cell za.out 4).trans rfl, (blk_cell za.out 5).trans rfl, (blk_cell za.out 6).trans rfl, (blk_cell za.out 7).trans rfl, (blk_cell za.out 8).trans rfl, (blk_cell za.out 9).trans rfl, ((HB.out.cell (World.block_lt_of_cell? w _ hw531_0)).trans hw531_0)⟩ (fun hHeld => ?_); refine with_tabW gradineref29_put.tab9 gradineref29_put.bits9 (fun HT_ HW_ => ?_)
     generalize wr.drew = w19 at zz za zc HB hx531_0 hHeld ⊢
     refine pP (i := 0) (N := some 42) (bm 16 1) rfl rfl HT_.out ?_
     refine pP (i := 2) (N := some 44) (bm 16 5) rfl rfl HT_.out ?_
     refine pT (i := 1) (N := some 43) (bm 16 7) rfl rfl HT_.out HW_.out hHeld (by rintro w' ⟨s0, s1, s2, s3, s4, s5, s6, s7, s8, s9, s10⟩; go_simp; with_reducible rfl) ?_
     refine pP (i := 3) (N := some 45) (bm 16 15) rfl rfl HT_.out ?_
     refine pT (i := 4) (N := some 46) (bm 16 31) rfl rfl HT_.out HW_.out hHeld (by rintro w' ⟨s0, s1, s2, s3, s4, s5, s6, s7, s8, s9, s10⟩; go_simp; with_reducible rfl) ?_
     refine pP (i := 5) (N := some 47) (bm 16 63) rfl rfl HT_.out ?_
     refine pP (i := 6) (N := some 48) (bm 16 127) rfl rfl HT_.out ?_
     refine pure_ (i := 7) (N := some 49) (v := undef) (a' := ?_) (bm 16 255) rfl rfl (any_of HT_.out (by kernel_rfl)) (fun _ _ _ h => h) (Or.inr ⟨by rfl, rfl⟩) ?_ ?_
     rotate_left
     ·simp only [Act.put, sP, i64_w, i32_w]
      rfl
     refine pure_ (i := 8) (N := some 50) (v := undef) (a' := ?_) (bm 16 511) rfl rfl (any_of HT_.out (by kernel_rfl)) (fun _ _ _ h => h) (Or.inr ⟨by rfl, rfl⟩) ?_ ?_
     rotate_left
     ·simp only [Act.put, sP, i64_w, i32_w]
      rfl
     refine pure_ (i := 9) (N := some 51) (v := undef) (a' := ?_) (bm 16 1023) rfl rfl (any_of HT_.out (by kernel_rfl)) (fun _ _ _ h => h) (Or.inr ⟨by rfl, rfl⟩) ?_ ?_
     rotate_left
     ·simp only [Act.put, sP, i64_w, i32_w]
      rfl
     refine pure_ (i := 10) (N := some 52) (v := undef) (a' := ?_) (bm 16 2047) rfl rfl (any_of HT_.out (by kernel_rfl)) (fun _ _ _ h => h) (Or.inr ⟨by rfl, rfl⟩) ?_ ?_
     rotate_left
     ·simp only [Act.put, sP, i64_w, i32_w]
      rfl
     refine pure_ (i := 11) (N := some 53) (v := undef) (a' := ?_) (bm 16 4095) rfl rfl (any_of HT_.out (by kernel_rfl)) (fun _ _ _ h => h) (Or.inr ⟨by rfl, rfl⟩) ?_ ?_
     rotate_left
     ·simp only [Act.put, sP, i64_w, i32_w]
      rfl
     refine pure_ (i := 12) (N := some 54) (v := undef) (a' := ?_) (bm 16 8191) rfl rfl (any_of HT_.out (by kernel_rfl)) (fun _ _ _ h => h) (Or.inr ⟨by rfl, rfl⟩) ?_ ?_
     rotate_left
     ·simp only [Act.put, sP, i64_w, i32_w]
      rfl
     refine pure_ (i := 13) (N := some 55) (v := undef) (a' := ?_) (bm 16 16383) rfl rfl (any_of HT_.out (by kernel_rfl)) (fun _ _ _ h => h) (Or.inr ⟨by rfl, rfl⟩) ?_ ?_
     rotate_left
     ·simp only [Act.put, sP, i64_w, i32_w]
      rfl
     refine pure_ (i := 14) (N := some 56) (v := undef) (a' := ?_) (bm 16 32767) rfl rfl (any_of HT_.out (by kernel_rfl)) (fun _ _ _ h => h) (Or.inr ⟨by rfl, rfl⟩) ?_ ?_
     rotate_left
     ·simp only [Act.put, sP, i64_w, i32_w]
      rfl
     refine pP (i := 15) (N := some 57) (bm 16 65535) rfl rfl HT_.out ?_
     refine done_ (done_of HT_.out (by kernel_rfl)) ?_
     have hnb20 := zr.out
     have hnc20 := zq.out
     obtain ⟨hcz21_0, hcz21_1, hcz21_2, hfz21_0, hfz21_1, hfz21_2⟩ := blk3 zc.out
     try go_wp2
     refine bodyPost_ret (results_ct rfl _ _ zn 29 #[.slice none 0 0, .slice none 0 0, .slice none 0 0] (0, 0) _ rfl (by exact P3 zc) Try.underlying29 rfl (by kernel_rfl)) rfl ?_
     exact ⟨_, _, _, pE, pN, pN, pN, qB2 HB zh zj⟩
    rw [if_neg c18] at H
    have c18b0 : decide ((rd l1_9 x39_1) < 0) = false := decide_eq_false c18
    clear c18
    by_cases c22 : (rd l1_9 x39_1) ≥ a1_1
    rotate_left
    ·rw [if_neg c22] at H
     have c22b0 : decide (a1_1 ≤ (rd l1_9 x39_1)) = false := decide_eq_false c22
     clear c22
     have H' := aM H
     clear H
     try go_wp2
     replace zz := aM (Kd.R_drew zz.out)
     replace za := aM (blk_drew za.out)
     replace zc := aM (blk_drew zc.out)
     replace HB := aM (below_drew1 HB.out)
     have p531 : 0 ≤ (x39_1 : Int) := of_decide_eq_true pD
     have q531 : x39_1 < (l1_9.length : Int) := of_decide_eq_true pD
     obtain ⟨ad531, e531, hx531_0⟩ := Kd.at_int zad.out x39_1 p531 q531
     have hw531_0 := hx531_0
     cases e531
     replace hx531_0 := (HB.out.cell (World.block_lt_of_cell? w _ hx531_0)).trans hx531_0
     replace p531 := eq_true p531
     replace q531 := eq_true q531
     have p532 : 0 ≤ (x39_1 : Int) := of_decide_eq_true pD
     have q532 : x39_1 < (l1_9.length : Int) := of_decide_eq_true pD
     obtain ⟨ad532, e532, hx532_0⟩ := Kd.at_int zad.out x39_1 p532 q532
     have hw532_0 := hx532_0
     obtain rfl : ad531 = ad532 := (by injection e532)
     replace hx532_0 := (HB.out.cell (World.block_lt_of_cell? w _ hx532_0)).trans hx532_0
     replace p532 := eq_true p532
     replace q532 := eq_true q532
     refine start_ (n := 16) (S := fun w' => w'.cell? ⟨zb, 0, none⟩ = some (.int .i64 a1_0) ∧ w'.cell? ⟨zb, 1, none⟩ = some (.int .i64 a1_1) ∧ w'.cell? ⟨zb, 2, none⟩ = some (.int .i64 a1_2) ∧ w'.cell? ⟨zb, 3, none⟩ = some (.int .i64 a1_3) ∧ w'.cell? ⟨zb, 4, none⟩ = some (.int .i64 a1_4) ∧ w'.cell? ⟨zb, 5, none⟩ = some (.int .i64 a1_5) ∧ w'.cell? ⟨zb, 6, none⟩ = some (.int .i64 a1_6) ∧ w'.cell? ⟨zb, 7, none⟩ = some (.int .i64 a1_7) ∧ w'.cell? ⟨zb, 8, none⟩ = some (.bool a1_8) ∧ w'.cell? ⟨zb, 9, none⟩ = some (.slice (some ad531) l1_9.length c1_9) ∧ w'.cell? (ad531.add (x39_1).toNat) = some (.int .i64 (rd l1_9 x39_1)) ∧ w'.cell? (ad531.add (x39_1).toNat) = some (.int .i64 (rd l1_9 x39_1))) (ds := []) (bm 16 0) (by kernel_rfl) rfl rfl ⟨(blk_cell za.out 0).trans rfl, (blk_cell za.out 1).trans rfl, (blk_cell za.out 2).trans rfl, (blk_cell za.out 3).trans rfl, (blk_cell za.out 4).trans rfl, (blk_cell za.out 5).trans rfl, (blk_cell za.out 6).trans rfl, (blk_cell za.out 7).trans rfl, (blk_cell za.out 8).trans rfl, (blk_cell za.out 9).trans rfl, ((HB.out.cell (World.block_lt_of_cell? w _ hw531_0)).trans hw531_0), ((HB.out.cell (World.block_lt_of_cell? w _ hw532_0)).trans hw532_0)⟩ (fun hHeld => ?_); refine with_tabW gradineref29_put.tab9 gradineref29_put.bits9 (fun HT_ HW_ => ?_)
     generalize wr.drew = w26 at zz za zc HB hx531_0 hx532_0 hHeld ⊢
     refine pP (i := 0) (N := some 42) (bm 16 1) rfl rfl HT_.out ?_
     refine pP (i := 2) (N := some 44) (bm 16 5) rfl rfl HT_.out ?_
     refine pT (i := 1) (N := some 43) (bm 16 7) rfl rfl HT_.out HW_.out hHeld (by rintro w' ⟨s0, s1, s2, s3, s4, s5, s6, s7, s8, s9, s10, s11⟩; go_simp; with_reducible rfl) ?_
     refine pP (i := 3) (N := some 45) (bm 16 15) rfl rfl HT_.out ?_
     refine pT (i := 4) (N := some 46) (bm 16 31) rfl rfl HT_.out HW_.out hHeld (by rintro w' ⟨s0, s1, s2, s3, s4, s5, s6, s7, s8, s9, s10, s11⟩; go_simp; with_reducible rfl) ?_
     refine pP (i := 5) (N := some 47) (bm 16 63) rfl rfl HT_.out ?_
     refine pP (i := 6) (N := some 48) (bm 16 127) rfl rfl HT_.out ?_
     refine pP (i := 7) (N := some 49) (bm 16 255) rfl rfl HT_.out ?_
     refine pP (i := 9) (N := some 51) (bm 16 767) rfl rfl HT_.out ?_
     refine pP (i := 12) (N := some 54) (bm 16 4863) rfl rfl HT_.out ?_
     refine pT (i := 8) (N := some 50) (bm 16 5119) rfl rfl HT_.out HW_.out hHeld (by rintro w' ⟨s0, s1, s2, s3, s4, s5, s6, s7, s8, s9, s10, s11⟩; go_simp; with_reducible rfl) ?_
     refine pP (i := 10) (N := some 52) (bm 16 6143) rfl rfl HT_.out ?_
     refine pT (i := 11) (N := some 53) (bm 16 8191) rfl rfl HT_.out HW_.out hHeld (by rintro w' ⟨s0, s1, s2, s3, s4, s5, s6, s7, s8, s9, s10, s11⟩; go_simp; with_reducible rfl) ?_
     refine pT (i := 13) (N := some 55) (bm 16 16383) rfl rfl HT_.out HW_.out hHeld (by rintro w' ⟨s0, s1, s2, s3, s4, s5, s6, s7, s8, s9, s10, s11⟩; go_simp; with_reducible rfl) ?_
     refine pP (i := 14) (N := some 56) (bm 16 32767) rfl rfl HT_.out ?_
     refine pP (i := 15) (N := some 57) (bm 16 65535) rfl rfl HT_.out ?_
     refine done_ (done_of HT_.out (by kernel_rfl)) ?_
     try go_wp2
     go_roundg k1
     case measure => have := HK1.out; omega
     case rel => exact ⟨(wrap64 (x39_1 + 1)), (pF), H', ⟨by have := HK1.out; omega⟩, ⟨pR zz.out⟩, ⟨pK za.out⟩, ⟨pK zc.out⟩, ⟨qB2 HB zh zj⟩⟩
    rw [if_pos c22] at H
    have c22b0 : decide (a1_1 ≤ (rd l1_9 x39_1)) = true := decide_eq_true c22
    clear c22
    simp only [Option.some.injEq, Prod.mk.injEq] at H
    obtain ⟨rfl, rfl, rfl, rfl⟩ := H
    try go_wp2
    replace zz := aM (Kd.R_drew zz.out)
    replace za := aM (blk_drew za.out)
    replace zc := aM (blk_drew zc.out)
    replace HB := aM (below_drew1 HB.out)
    have p531 : 0 ≤ (x39_1 : Int) := of_decide_eq_true pD
    have q531 : x39_1 < (l1_9.length : Int) := of_decide_eq_true pD
    obtain ⟨ad531, e531, hx531_0⟩ := Kd.at_int zad.out x39_1 p531 q531
    have hw531_0 := hx531_0
    cases e531
    replace hx531_0 := (HB.out.cell (World.block_lt_of_cell? w _ hx531_0)).trans hx531_0
    replace p531 := eq_true p531
    replace q531 := eq_true q531
    have p532 : 0 ≤ (x39_1 : Int) := of_decide_eq_true pD
    have q532 : x39_1 < (l1_9.length : Int) := of_decide_eq_true pD
    obtain ⟨ad532, e532, hx532_0⟩ := Kd.at_int zad.out x39_1 p532 q532
    have hw532_0 := hx532_0
    obtain rfl : ad531 = ad532 := (by injection e532)
    replace hx532_0 := (HB.out.cell (World.block_lt_of_cell? w _ hx532_0)).trans hx532_0
    replace p532 := eq_true p532
    replace q532 := eq_true q532
    refine start_ (n := 16) (S := fun w' => w'.cell? ⟨zb, 0, none⟩ = some (.int .i64 a1_0) ∧ w'.cell? ⟨zb, 1, none⟩ = some (.int .i64 a1_1) ∧ w'.cell? ⟨zb, 2, none⟩ = some (.int .i64 a1_2) ∧ w'.cell? ⟨zb, 3, none⟩ = some (.int .i64 a1_3) ∧ w'.cell? ⟨zb, 4, none⟩ = some (.int .i64 a1_4) ∧ w'.cell? ⟨zb, 5, none⟩ = some (.int .i64 a1_5) ∧ w'.cell? ⟨zb, 6, none⟩ = some (.int .i64 a1_6) ∧ w'.cell? ⟨zb, 7, none⟩ = some (.int .i64 a1_7) ∧ w'.cell? ⟨zb, 8, none⟩ = some (.bool a1_8) ∧ w'.cell? ⟨zb, 9, none⟩ = some (.slice (some ad531) l1_9.length c1_9) ∧ w'.cell? (ad531.add (x39_1).toNat) = some (.int .i64 (rd l1_9 x39_1)) ∧ w'.cell? (ad531.add (x39_1).toNat) = some (.int .i64 (rd l1_9 x39_1))) (ds := []) (bm 16 0) (by kernel_rfl) rfl rfl ⟨(blk_cell za.out 0).trans rfl, (blk_cell za.out 1).trans rfl, (blk_cell za.out 2).trans rfl, (blk_cell za.out 3).trans rfl, (blk_cell za.out 4).trans rfl, (blk_cell za.out 5).trans rfl, (blk_cell za.out 6).trans rfl, (blk_cell za.out 7).trans rfl, (blk_cell za.out 8).trans rfl, (blk_cell za.out 9).trans rfl, ((HB.out.cell (World.block_lt_of_cell? w _ hw531_0)).trans hw531_0), ((HB.out.cell (World.block_lt_of_cell? w _ hw532_0)).trans hw532_0)⟩ (fun hHeld => ?_); refine with_tabW gradineref29_put.tab9 gradineref29_put.bits9 (fun HT_ HW_ => ?_)
    generalize wr.drew = w23 at zz za zc HB hx531_0 hx532_0 hHeld ⊢
    refine pP (i := 0) (N := some 42) (bm 16 1) rfl rfl HT_.out ?_
    refine pP (i := 2) (N := some 44) (bm 16 5) rfl rfl HT_.out ?_
    refine pT (i := 1) (N := some 43) (bm 16 7) rfl rfl HT_.out HW_.out hHeld (by rintro w' ⟨s0, s1, s2, s3, s4, s5, s6, s7, s8, s9, s10, s11⟩; go_simp; with_reducible rfl) ?_
    refine pP (i := 3) (N := some 45) (bm 16 15) rfl rfl HT_.out ?_
    refine pT (i := 4) (N := some 46) (bm 16 31) rfl rfl HT_.out HW_.out hHeld (by rintro w' ⟨s0, s1, s2, s3, s4, s5, s6, s7, s8, s9, s10, s11⟩; go_simp; with_reducible rfl) ?_
    refine pP (i := 5) (N := some 47) (bm 16 63) rfl rfl HT_.out ?_
    refine pP (i := 6) (N := some 48) (bm 16 127) rfl rfl HT_.out ?_
    refine pP (i := 7) (N := some 49) (bm 16 255) rfl rfl HT_.out ?_
    refine pP (i := 9) (N := some 51) (bm 16 767) rfl rfl HT_.out ?_
    refine pP (i := 12) (N := some 54) (bm 16 4863) rfl rfl HT_.out ?_
    refine pT (i := 8) (N := some 50) (bm 16 5119) rfl rfl HT_.out HW_.out hHeld (by rintro w' ⟨s0, s1, s2, s3, s4, s5, s6, s7, s8, s9, s10, s11⟩; go_simp; with_reducible rfl) ?_
    refine pP (i := 10) (N := some 52) (bm 16 6143) rfl rfl HT_.out ?_
    refine pT (i := 11) (N := some 53) (bm 16 8191) rfl rfl HT_.out HW_.out hHeld (by rintro w' ⟨s0, s1, s2, s3, s4, s5, s6, s7, s8, s9, s10, s11⟩; go_simp; with_reducible rfl) ?_
    refine pT (i := 13) (N := some 55) (bm 16 16383) rfl rfl HT_.out HW_.out hHeld (by rintro w' ⟨s0, s1, s2, s3, s4, s5, s6, s7, s8, s9, s10, s11⟩; go_simp; with_reducible rfl) ?_
    refine pP (i := 14) (N := some 56) (bm 16 32767) rfl rfl HT_.out ?_
    refine pP (i := 15) (N := some 57) (bm 16 65535) rfl rfl HT_.out ?_
    refine done_ (done_of HT_.out (by kernel_rfl)) ?_
    have hnb24 := zr.out
    have hnc24 := zq.out
    obtain ⟨hcz25_0, hcz25_1, hcz25_2, hfz25_0, hfz25_1, hfz25_2⟩ := blk3 zc.out
    try go_wp2
    refine bodyPost_ret (results_ct rfl _ _ zn 29 #[.slice none 0 0, .slice none 0 0, .slice none 0 0] (0, 0) _ rfl (by exact P3 zc) Try.underlying29 rfl (by kernel_rfl)) rfl ?_
    exact ⟨_, _, _, pE, pN, pN, pN, qB2 HB zh zj⟩
   rw [if_neg c15] at H
   have zav : decide (x39_1 < (l1_9.length : Int)) = false := decide_eq_false c15
   clear c15
   replace H := Option.bind_eq_some_iff.mp H
   obtain ⟨zm, za4, H⟩ := H
   try dsimp only at H
   have A27 := aM za4
   clear za4
   have H' := aM H
   clear H
   obtain ⟨zt, zu, eo28⟩ := Kd.R_slice zz.out
   subst eo28
   go_wp2_with (first | ((with_reducible refine gate_dst (N := 9) rfl ?_); refine box_event ?hg (N := 9) ?hd (cs := #[.slice none 0 0, .slice none 0 0, .slice none 0 0]) (t := 29) ?hr ?_; (case hd => rfl); (case hg => rfl); (case hr => first | (go_simp; done) | (go_simp; rfl)); intro zo hg w29 hbox hb; replace zz := bR zz hb; have zf := aM (hbox); have GW533 := gE (w := w) hg (qB2 HB zh zj); have zy := GW533; replace HB := bS (qB2 HB zh zj) hb; have zw := nL hg za; have z2 := nG hg za; replace za := bK za hb; have zx := nL hg zc; have z3 := nG hg zc; replace zc := bK zc hb; clear hb hbox hg; have hnb30 := z2.out; have hnc30 := zw.out; have hnb31 := z3.out; have hnc31 := zx.out; obtain ⟨hcz32_0, hcz32_1, hcz32_2, hfz32_0, hfz32_1, hfz32_2⟩ := blk3 zf.out) | ((with_reducible refine gate_callee (f := 30) rfl ?_); refine goesL_ (some 63) rfl rfl Try.func30 (by kernel_rfl) rfl #[.slice (some ad530) l0.length c0] rfl pA ?_; (with_reducible refine (gradineref20_All.calls k1 _ _ l0 zm _ ?s1 ?s2 A27.out).mono ?_); (case s1 => exact Kd.C_below HR0.out (qB3 HB zh zj zy)); (case s2 => exact HC0.out); rintro e w33 ⟨v535, rfl, ho0, hb⟩; refine ⟨_, rfl, ?_⟩; have zaw := aM (Kd.N_lower (Kd.N_mono (ok' := fun k_ => some k_ ≠ (.slice zt zk.length zu : Value).ownBlock ∧ k_ ≠ zb ∧ k_ ≠ zn ∧ k_ ≠ zo) ho0 (fun k_ hk_ => ⟨(Kd.fresh' (Kd.R_lt (by (with_reducible repeat (first | apply rA | apply rN | apply rD)); exact (F3 zz zf (fun _ h_ => h_.1)))) k_ hk_), (Kd.freshB (g := zb) (o := .cells #[.int .i64 a1_0, .int .i64 a1_1, .int .i64 a1_2, .int .i64 a1_3, .int .i64 a1_4, .int .i64 a1_5, .int .i64 a1_6, .int .i64 a1_7, .bool a1_8, .slice A1_9 l1_9.length c1_9] 24 (0, 0)) (by refine B3 zw ?_; exact za.out) k_ hk_), (Kd.freshB (g := zn) (o := .cells #[.slice none 0 0, .slice none 0 0, .slice none 0 0] 29 (0, 0)) (by refine B3 zx ?_; exact zc.out) k_ hk_), (Kd.freshB (g := zo) (o := .cells #[.slice zt zk.length zu, .slice none 0 0, .slice none 0 0] 29 (0, 0)) (by exact P3 zf) k_ hk_)⟩)) (below_size (qB3 HB zh zj zy))); replace zz := aM (Kd.R_below (by (with_reducible repeat (first | apply rA | apply rN | apply rD)); exact (F3 zz zf (fun _ h_ => h_.1))) hb); replace za := aM (blk_below (g := zb) (o := .cells #[.int .i64 a1_0, .int .i64 a1_1, .int .i64 a1_2, .int .i64 a1_3, .int .i64 a1_4, .int .i64 a1_5, .int .i64 a1_6, .int .i64 a1_7, .bool a1_8, .slice A1_9 l1_9.length c1_9] 24 (0, 0)) (by refine B3 zw ?_; exact za.out) hb); replace zc := aM (blk_below (g := zn) (o := .cells #[.slice none 0 0, .slice none 0 0, .slice none 0 0] 29 (0, 0)) (by refine B3 zx ?_; exact zc.out) hb); replace zf := aM (blk_below (g := zo) (o := .cells #[.slice zt zk.length zu, .slice none 0 0, .slice none 0 0] 29 (0, 0)) (by exact P3 zf) hb); replace HB := bS (qB3 HB zh zj zy) hb; (try clear hb); (try clear hk); (try clear hi); (try clear ho0); obtain ⟨Ao34, zao, eo34⟩ := Kd.N_slice zaw.out; subst eo34))
   go_loopg [66] k1 (fun kq v66 w' => ∃ (x66_2 : Int) (zi : List Int) (u534002 : Value), v66 = .int .i64 x66_2 ∧ Aside0 (gradineref29_put.l1 kq l0 zm (zm.length : Int) x66_2 a1_0 a1_1 a1_2 a1_3 a1_4 a1_5 a1_6 a1_7 a1_8 l1_9 zk zi = some (r1, r2, r3, r4)) ∧ Aside0 (kq ≤ k1) ∧ Aside0 (Kd.N (Kd.slice 3 (Kd.int .i64)) 22 w' w.heap.size (fun k_ => some k_ ≠ ((.slice zt zk.length zu) : Value).ownBlock ∧ some k_ ≠ (u534002 : Value).ownBlock ∧ k_ ≠ zb ∧ k_ ≠ zn ∧ k_ ≠ zo) (.slice Ao34 zm.length zao) zm) ∧ Aside0 (Kd.R (Kd.int .i64) 3 w' w.heap.size (fun k_ => some k_ ≠ (u534002 : Value).ownBlock) (.slice zt zk.length zu) zk) ∧ Aside0 (Kd.R (Kd.int .i64) 3 w' w.heap.size (fun k_ => some k_ ≠ ((.slice zt zk.length zu) : Value).ownBlock) u534002 zi) ∧ Aside0 (w'.heap[zb]? = some (.cells #[.int .i64 a1_0, .int .i64 a1_1, .int .i64 a1_2, .int .i64 a1_3, .int .i64 a1_4, .int .i64 a1_5, .int .i64 a1_6, .int .i64 a1_7, .bool a1_8, (.slice A1_9 l1_9.length c1_9)] 24 (0, 0))) ∧ Aside0 (w'.heap[zn]? = some (.cells #[(.slice none 0 0), (.slice none 0 0), (.slice none 0 0)] 29 (0, 0))) ∧ Aside0 (w'.heap[zo]? = some (.cells #[(.slice zt zk.length zu), (.slice none 0 0), u534002] 29 (0, 0))) ∧ Aside0 (Below w.heap.size w w'))
   case atStart => exact ⟨(0), (([] : List Int)), (.slice none 0 0), (pF), H', ⟨Nat.le_refl _⟩, ⟨by (with_reducible repeat (first | apply Kd.N_alloc | apply Kd.N_drewN | apply Kd.N_drew)); exact Kd.N_mono zaw.out (fun _ hk => ⟨hk.1, ⟨(by simp [Value.ownBlock]), ⟨hk.2.1, ⟨hk.2.2.1, hk.2.2.2⟩⟩⟩⟩)⟩, ⟨by (with_reducible repeat (first | apply rA | apply rN | apply rD)); exact Kd.R_mono zz.out (fun _ hk => (by simp [Value.ownBlock]))⟩, ⟨pN⟩, ⟨pK za.out⟩, ⟨pK zc.out⟩, ⟨pK zf.out⟩, ⟨qB3 HB zh zj zy⟩⟩
   case round =>
    clear H'
    try clear zav
    try clear hcz32_0 hcz32_1 hcz32_2 hfz32_0 hfz32_1 hfz32_2
    obtain ⟨x66_2, zi, u534002, rfl, HA, HK2, zp, zd, ze, za, zc, zf, HB⟩ := hrel
    cases gk with
    | zero => exact absurd HA.out (by simp [gradineref29_put.l1])
    | succ k2 =>
     have H := HA.out
     clear HA
     simp only [gradineref29_put.l1] at H
     by_cases c35 : x66_2 < (zm.length : Int)
     rotate_left
     ·rw [if_neg c35] at H
      have c35b0 : decide (x66_2 < (zm.length : Int)) = false := decide_eq_false c35
      clear c35
      simp only [Option.some.injEq, Prod.mk.injEq] at H
      obtain ⟨rfl, rfl, rfl, rfl⟩ := H
      have hnb58 := z2.out
      have hnc58 := zw.out
      have hnb59 := z3.out
      have hnc59 := zx.out
      obtain ⟨hcz60_0, hcz60_1, hcz60_2, hfz60_0, hfz60_1, hfz60_2⟩ := blk3 zf.out
      have hnb62 := zr.out
      have hnc62 := zq.out
      obtain ⟨hcz63_0, hcz63_1, hcz63_2, hfz63_0, hfz63_1, hfz63_2⟩ := blk3 zc.out
      obtain ⟨Ao64, co64, eo64⟩ := Kd.R_slice ze.out
      subst eo64
      go_wp2
      refine bodyPost_ret (results_ct rfl _ _ zn 29 #[.slice zt zk.length zu, .slice none 0 0, .slice Ao64 zi.length co64] (0, 0) _ rfl (by exact P3 zc) Try.underlying29 rfl (by kernel_rfl)) rfl ?_
      exact ⟨_, _, _, pE, by (with_reducible repeat (first | apply rA | apply rN | apply rD)); exact F3 zd zc (fun _ hk => ⟨(by simp [Value.ownBlock]), hk.1⟩), pN, by (with_reducible repeat (first | apply rA | apply rN | apply rD)); exact F3 ze zc (fun _ hk => ⟨hk.1, (by simp [Value.ownBlock])⟩), qB3 HB zh zj zy⟩
     rw [if_pos c35] at H
     have c35b0 : decide (x66_2 < (zm.length : Int)) = true := decide_eq_true c35
     clear c35
     obtain ⟨zag, zap⟩ : ∃ y_ : List Int, y_ = (([] : List Int)) := ⟨_, rfl⟩
     replace H : (if 0 ≤ x66_2 then (if x66_2 < (zm.length : Int) then (if zag.length + (rd_L1 zm x66_2).length < 17592186044416 then ((some (zag ++ (rd_L1 zm x66_2) : List Int)).bind fun zg => (if 0 ≤ a1_0 then (if a1_0 < (zg.length : Int) then (if 0 ≤ (rd zg a1_0) then (if (rd zg a1_0) < (l1_9.length : Int) then ((gradineref20_Place.f k2 zk (zg.set (a1_0 : Int).toNat (rd l1_9 (rd zg a1_0)))).bind fun z4 => (if zi.length < 17592186044416 then (gradineref29_put.l1 k2 l0 zm (zm.length : Int) (wrap64 (x66_2 + 1)) a1_0 a1_1 a1_2 a1_3 a1_4 a1_5 a1_6 a1_7 a1_8 l1_9 zk (zi ++ [z4])) else (none))) else (none)) else (none)) else (none)) else (none))) else (none)) else (none)) else (none)) = some (r1, r2, r3, r4) := pH zap H
     have zax := aM zap
     clear zap
     by_cases c36 : 0 ≤ x66_2
     rotate_left
     ·rw [if_neg c36] at H
      exact absurd H (by simp)
     rw [if_pos c36] at H
     have c36b0 : decide (0 ≤ x66_2) = true := decide_eq_true c36
     clear c36
     by_cases c37 : x66_2 < (zm.length : Int)
     rotate_left
     ·rw [if_neg c37] at H
      exact absurd H (by simp)
     rw [if_pos c37] at H
     have c37b0 : decide (x66_2 < (zm.length : Int)) = true := decide_eq_true c37
     clear c37
     by_cases c38 : zag.length + (rd_L1 zm x66_2).length < 17592186044416
     rotate_left
     ·rw [if_neg c38] at H
      exact absurd H (by simp)
     rw [if_pos c38] at H
     have LMc38 := aM c38
     clear c38
     obtain ⟨zg, zaq⟩ : ∃ y_ : List Int, y_ = (zag ++ (rd_L1 zm x66_2)) := ⟨_, rfl⟩
     replace H : (if 0 ≤ a1_0 then (if a1_0 < (zg.length : Int) then (if 0 ≤ (rd zg a1_0) then (if (rd zg a1_0) < (l1_9.length : Int) then ((gradineref20_Place.f k2 zk (zg.set (a1_0 : Int).toNat (rd l1_9 (rd zg a1_0)))).bind fun z4 => (if zi.length < 17592186044416 then (gradineref29_put.l1 k2 l0 zm (zm.length : Int) (wrap64 (x66_2 + 1)) a1_0 a1_1 a1_2 a1_3 a1_4 a1_5 a1_6 a1_7 a1_8 l1_9 zk (zi ++ [z4])) else (none))) else (none)) else (none)) else (none)) else (none)) = some (r1, r2, r3, r4) := pH zaq H
     have Ny541 := aM zaq
     clear zaq
     by_cases c39 : 0 ≤ a1_0
     rotate_left
     ·rw [if_neg c39] at H
      exact absurd H (by simp)
     rw [if_pos c39] at H
     have c39b0 : decide (0 ≤ a1_0) = true := decide_eq_true c39
     clear c39
     by_cases c40 : a1_0 < (zg.length : Int)
     rotate_left
     ·rw [if_neg c40] at H
      exact absurd H (by simp)
     rw [if_pos c40] at H
     have c40b0 : decide (a1_0 < (zg.length : Int)) = true := decide_eq_true c40
     clear c40
     by_cases c41 : 0 ≤ (rd zg a1_0)
     rotate_left
     ·rw [if_neg c41] at H
      exact absurd H (by simp)
     rw [if_pos c41] at H
     have c41b0 : decide (0 ≤ (rd zg a1_0)) = true := decide_eq_true c41
     clear c41
     by_cases c42 : (rd zg a1_0) < (l1_9.length : Int)
     rotate_left
     ·rw [if_neg c42] at H
      exact absurd H (by simp)
     rw [if_pos c42] at H
     have c42b0 : decide ((rd zg a1_0) < (l1_9.length : Int)) = true := decide_eq_true c42
     clear c42
     obtain ⟨zam, zar⟩ : ∃ y_ : List Int, y_ = (zg.set (a1_0 : Int).toNat (rd l1_9 (rd zg a1_0))) := ⟨_, rfl⟩
     replace H : ((gradineref20_Place.f k2 zk zam).bind fun z4 => (if zi.length < 17592186044416 then (gradineref29_put.l1 k2 l0 zm (zm.length : Int) (wrap64 (x66_2 + 1)) a1_0 a1_1 a1_2 a1_3 a1_4 a1_5 a1_6 a1_7 a1_8 l1_9 zk (zi ++ [z4])) else (none))) = some (r1, r2, r3, r4) := pH zar H
     have Ny546 := aM zar
     clear zar
     replace H := Option.bind_eq_some_iff.mp H
     obtain ⟨z4, za5, H⟩ := H
     try dsimp only at H
     have A44 := aM za5
     clear za5
     by_cases c45 : zi.length < 17592186044416
     rotate_left
     ·rw [if_neg c45] at H
      exact absurd H (by simp)
     rw [if_pos c45] at H
     have LMc45 := aM c45
     clear c45
     obtain ⟨zan, zas⟩ : ∃ y_ : List Int, y_ = (zi ++ [z4]) := ⟨_, rfl⟩
     replace H : (gradineref29_put.l1 k2 l0 zm (zm.length : Int) (wrap64 (x66_2 + 1)) a1_0 a1_1 a1_2 a1_3 a1_4 a1_5 a1_6 a1_7 a1_8 l1_9 zk zan) = some (r1, r2, r3, r4) := pH zas H
     have Ny548 := aM zas
     clear zas
     have H' := aM H
     clear H
     try go_wp2_with (first | ((with_reducible refine gate_dst (N := 69) rfl ?_); refine Kd.R_lit (Kd.int .i64) _ 3 ?hg (N := 69) ?hd (xs := ([] : List Int)) (inner := []) (ok := fun _ => True) (okp := fun _ => True) ?hr ?hp (fun _ hk => hk) trivial (Below.refl _ _) (Nat.le_refl _) (by simp) ?_; (case hd => rfl); (case hg => rfl); (case hr => first | (go_simp; done) | (go_simp; rfl)); (case hp => exact (Reps.none _ _)); intro v538 w46 ho47 hb hg_ hnew_; clear hg_ hnew_; (first | rw [← zax.out] at ho47 | (simp only [Int.reduceToNat] at ho47; rw [← zax.out] at ho47)); replace zp := aM (Kd.N_elder' (by (with_reducible repeat (first | apply Kd.N_alloc | apply Kd.N_drewN | apply Kd.N_drew)); exact zp.out) (Kd.R_base ho47) hb); have zak := aM (Kd.R_lower (Kd.R_new' (Kd.R_new' ho47 (Kd.R_lt (pR zd.out))) (Kd.R_lt (pR ze.out))) (below_size (qB3 HB zh zj zy))); replace zd := eR zd ho47 hb; replace ze := eR ze ho47 hb; replace za := bK za hb; replace zc := bK zc hb; replace zf := bK zf hb; replace HB := bS (qB3 HB zh zj zy) hb; clear hb ho47; have p540 : 0 ≤ (x66_2 : Int) := of_decide_eq_true pD; have q540 : x66_2 < (zm.length : Int) := of_decide_eq_true pD; obtain ⟨ad540, A540_0, c540_0, e540, hx540_0, hl540_0, hi540_0⟩ := at_L1 (Kd.N_reads' zp.out).2.2 x66_2 p540 q540; cases e540; obtain ⟨ce540, hce540, hMe540, hcc540⟩ := Kd.N_get zp.out [] x66_2 p540 (by first | exact q540 | exact of_decide_eq_true pD | (have e_ := (Kd.N_reads' zp.out).1; omega)); obtain ⟨ua540_0, uc540_0, rfl, ul540_0, ge540_0⟩ := Kd.FK_slice_open hMe540; have hv540_0 := hcc540 0 _ rfl; rw [Nat.add_zero, show ((Kd.slice 3 (Kd.int .i64))).sz = 1 from rfl, Nat.mul_one] at hv540_0; replace hv540_0 := Option.some.inj (hv540_0.symm.trans hx540_0); injection hv540_0 with hva_ hvn_ hvc_; rw [hva_] at ge540_0; rw [hvc_] at ul540_0; have HL540_0 := aM (show Kd.V (Kd.int .i64) 3 _ w.heap.size _ _ (rd_L1 zm x66_2) from Kd.V_mk ul540_0 ge540_0); clear hva_ hvn_ hvc_ ge540_0 ul540_0; clear hcc540 hce540; have zal := aM hi540_0; have HC540_0 := aM hl540_0; clear hi540_0 hl540_0; replace p540 := eq_true p540; replace q540 := eq_true q540) | ((with_reducible refine gate_builtin (b := .append) (xs := #[.tmp 69, .tmp 73]) rfl ?_); at_builtin; refine Kd.R_append_rows (Kd.int .i64) (w0 := w) w.heap.size rfl (.tmp 69) (.tmp 73) 22 3 (.int .i64 0) 8 rfl Try.underlying22 info3 rfl (by decide) (by omega) v538 zag (rd_L1 zm x66_2) _ _ _ (fun k_ => some k_ ≠ ((.slice zt zk.length zu) : Value).ownBlock ∧ some k_ ≠ (u534002 : Value).ownBlock) (fun _ => False) rfl rfl ?aO ?aR (fun _ _ h => h) (fun _ h => h.elim) ?aF ?aB ?aS ?aL ?_; (case aR => repeat (first | exact (by repeat (first | (with_reducible exact zal.out) | (with_reducible refine Kd.C_alloc ?_ _) | (with_reducible refine Kd.C_drewN ?_ _) | (with_reducible refine Kd.C_drew ?_) | exact zal.out)) | (with_reducible refine Kd.C_alloc ?_ _) | (with_reducible refine Kd.C_drewN ?_ _) | (with_reducible refine Kd.C_drew ?_))); (case aB => exact (qB3 HB zh zj zy)); (case aF => exact (fun k_ hk => ⟨Kd.fresh' (Kd.R_lt (pR zd.out)) k_ hk, Kd.fresh' (Kd.R_lt (pR ze.out)) k_ hk⟩)); (case aO => exact (by (with_reducible repeat (first | apply rA | apply rN | apply rD)); exact Kd.R_mono zak.out (fun _ hk => ⟨hk.1.2, hk.2⟩))); (case aS => exact (below_size (qB3 HB zh zj zy))); (case aL => have := LMc38.out; omega); intro v542 w48 ho hb hg hat; rw [← Ny541.out] at ho; replace zp := aM (Kd.N_afterv (ok := (fun k_ => some k_ ≠ ((.slice zt zk.length zu) : Value).ownBlock ∧ some k_ ≠ (u534002 : Value).ownBlock ∧ k_ ≠ zb ∧ k_ ≠ zn ∧ k_ ≠ zo)) (by (with_reducible repeat (first | apply Kd.N_alloc | apply Kd.N_drewN | apply Kd.N_drew)); exact zp.out) hg hat); replace zd := aM (Kd.R_after (ok := (fun k_ => some k_ ≠ (u534002 : Value).ownBlock)) (pR zd.out) hg hat); replace ze := aM (Kd.R_after (ok := (fun k_ => some k_ ≠ ((.slice zt zk.length zu) : Value).ownBlock)) (pR ze.out) hg hat); replace za := aM (blk_grown (g := zb) (pK za.out) hg (Kd.R_ne zak.out za.out (by decide))); replace zc := aM (blk_grown (g := zn) (pK zc.out) hg (Kd.R_ne zak.out zc.out (by decide))); replace zf := aM (blk_grown (g := zo) (pK zf.out) hg (Kd.R_ne zak.out zf.out (by decide))); replace HL540_0 := aM (Kd.V_afterv (ok := (fun k_ => some k_ ≠ (.slice (some ad540) zm.length zao : Value).ownBlock ∧ some k_ ≠ ((.slice zt zk.length zu) : Value).ownBlock ∧ some k_ ≠ (u534002 : Value).ownBlock ∧ k_ ≠ zb ∧ k_ ≠ zn ∧ k_ ≠ zo)) (by (with_reducible repeat (first | apply Kd.V_alloc | apply Kd.V_drewN | apply Kd.V_drew)); exact Kd.V_mono HL540_0.out (fun _ hk => ⟨⟨hk.2, ⟨hk.1.1.1, ⟨hk.1.1.2.1, ⟨hk.1.1.2.2.1, ⟨hk.1.1.2.2.2.1, hk.1.1.2.2.2.2⟩⟩⟩⟩⟩, hk.1.2⟩)) hg hat); replace HB := aM (hb); have zl := aM (ho); clear zak; clear ho hb hg hat))
     replace zp := aM (Kd.N_drew zp.out)
     replace zd := aM (Kd.R_drew zd.out)
     replace ze := aM (Kd.R_drew ze.out)
     replace HL540_0 := aM (Kd.V_drew HL540_0.out)
     replace zl := aM (Kd.R_drew zl.out)
     replace za := aM (blk_drew za.out)
     replace zc := aM (blk_drew zc.out)
     replace zf := aM (blk_drew zf.out)
     replace HB := aM (below_drew1 HB.out)
     obtain ⟨Ao50, zac, za6⟩ := Kd.R_slice zl.out
     (first | subst za6 | (injection za6 with f1_ f2_ f3_; have f4_ := f1_.symm; have f5_ := f3_.symm; clear f1_ f2_ f3_; subst f4_; subst f5_))
     have p544 : 0 ≤ (a1_0 : Int) := of_decide_eq_true pD
     have q544 : a1_0 < (zg.length : Int) := of_decide_eq_true pD
     obtain ⟨ad544, e544, hx544_0⟩ := Kd.at_int (Kd.R_reads' zl.out).2.2 a1_0 p544 q544
     cases e544
     replace p544 := eq_true p544
     replace q544 := eq_true q544
     have p545 : 0 ≤ ((rd zg a1_0) : Int) := of_decide_eq_true pD
     have q545 : (rd zg a1_0) < (l1_9.length : Int) := of_decide_eq_true pD
     obtain ⟨ad545, e545, hx545_0⟩ := Kd.at_int zad.out (rd zg a1_0) p545 q545
     have hw545_0 := hx545_0
     cases e545
     replace hx545_0 := (HB.out.cell (World.block_lt_of_cell? w _ hx545_0)).trans hx545_0
     replace p545 := eq_true p545
     replace q545 := eq_true q545
     have p43 : 0 ≤ (a1_0 : Int) := of_decide_eq_true pD
     have q43 : (a1_0 : Int) < ((zg.length : Int) : Int) := of_decide_eq_true pD
     obtain ⟨go43, co43, za7, za8, gl43, cl43, HG43⟩ := Kd.R_form zl.out (by omega)
     (first | cases za7 | (injection za7 with ea_ en_ ec_; (first | subst ea_ | (injection ea_ with ea_; subst ea_)); subst ec_; clear en_))
     have GB43 := aM za8
     have GG43 := aM HG43
     clear za8 gl43 HG43
     (first | simp only [add_plain] at hx544_0 | skip)
     obtain ⟨hx43_0, hf43_0⟩ := Kd.R_celln 0 zl.out (a1_0 : Int) p43 q43
     replace p43 := eq_true p43
     replace q43 := eq_true q43
     have HP51 := Kd.R_putn zl.out (a1_0 : Int) (rd l1_9 (rd zg a1_0))
     rw [← Ny546.out] at HP51
     have HQ51 := aM HP51
     clear HP51
     refine start_ (n := 14) (S := fun w' => w'.cell? ⟨zb, 0, none⟩ = some (.int .i64 a1_0) ∧ w'.cell? ⟨zb, 1, none⟩ = some (.int .i64 a1_1) ∧ w'.cell? ⟨zb, 2, none⟩ = some (.int .i64 a1_2) ∧ w'.cell? ⟨zb, 3, none⟩ = some (.int .i64 a1_3) ∧ w'.cell? ⟨zb, 4, none⟩ = some (.int .i64 a1_4) ∧ w'.cell? ⟨zb, 5, none⟩ = some (.int .i64 a1_5) ∧ w'.cell? ⟨zb, 6, none⟩ = some (.int .i64 a1_6) ∧ w'.cell? ⟨zb, 7, none⟩ = some (.int .i64 a1_7) ∧ w'.cell? ⟨zb, 8, none⟩ = some (.bool a1_8) ∧ w'.cell? ⟨zb, 9, none⟩ = some (.slice (some ad545) l1_9.length c1_9) ∧ w'.cell? ⟨go43, (a1_0).toNat, none⟩ = some (.int .i64 (rd zg a1_0)) ∧ w'.cell? (ad545.add ((rd zg a1_0)).toNat) = some (.int .i64 (rd l1_9 (rd zg a1_0)))) (ds := [13]) (bm 14 0) (by kernel_rfl) rfl rfl ⟨(blk_cell za.out 0).trans rfl, (blk_cell za.out 1).trans rfl, (blk_cell za.out 2).trans rfl, (blk_cell za.out 3).trans rfl, (blk_cell za.out 4).trans rfl, (blk_cell za.out 5).trans rfl, (blk_cell za.out 6).trans rfl, (blk_cell za.out 7).trans rfl, (blk_cell za.out 8).trans rfl, (blk_cell za.out 9).trans rfl, hx544_0, ((HB.out.cell (World.block_lt_of_cell? w _ hw545_0)).trans hw545_0)⟩ (fun hHeld => ?_); refine with_tabW gradineref29_put.tab18 gradineref29_put.bits18 (fun HT_ HW_ => ?_)
     generalize w48.drew = w49 at zp zd ze HL540_0 zl za zc zf HB GG43 HQ51 hf43_0 hx43_0 hx544_0 hx545_0 hHeld ⊢
     refine pP (i := 0) (N := some 75) (bm 14 1) rfl rfl HT_.out ?_
     refine pP (i := 1) (N := some 76) (bm 14 3) rfl rfl HT_.out ?_
     refine pP (i := 3) (N := some 78) (bm 14 11) rfl rfl HT_.out ?_
     refine pP (i := 5) (N := some 80) (bm 14 43) rfl rfl HT_.out ?_
     refine pP (i := 6) (N := some 81) (bm 14 107) rfl rfl HT_.out ?_
     refine pT (i := 2) (N := some 77) (bm 14 111) rfl rfl HT_.out HW_.out hHeld (by rintro w' ⟨s0, s1, s2, s3, s4, s5, s6, s7, s8, s9, s10, s11⟩; go_simp; with_reducible rfl) ?_
     refine pT (i := 4) (N := some 79) (bm 14 127) rfl rfl HT_.out HW_.out hHeld (by rintro w' ⟨s0, s1, s2, s3, s4, s5, s6, s7, s8, s9, s10, s11⟩; go_simp; with_reducible rfl) ?_
     refine pT (i := 7) (N := some 82) (bm 14 255) rfl rfl HT_.out HW_.out hHeld (by rintro w' ⟨s0, s1, s2, s3, s4, s5, s6, s7, s8, s9, s10, s11⟩; go_simp; with_reducible rfl) ?_
     refine pP (i := 8) (N := some 83) (bm 14 511) rfl rfl HT_.out ?_
     refine pT (i := 9) (N := some 84) (bm 14 1023) rfl rfl HT_.out HW_.out hHeld (by rintro w' ⟨s0, s1, s2, s3, s4, s5, s6, s7, s8, s9, s10, s11⟩; go_simp; with_reducible rfl) ?_
     refine pP (i := 10) (N := some 85) (bm 14 2047) rfl rfl HT_.out ?_
     refine pT (i := 11) (N := some 86) (bm 14 4095) rfl rfl HT_.out HW_.out hHeld (by rintro w' ⟨s0, s1, s2, s3, s4, s5, s6, s7, s8, s9, s10, s11⟩; go_simp; with_reducible rfl) ?_
     refine pP (i := 12) (N := some 87) (bm 14 8191) rfl rfl HT_.out ?_
     refine last_ (i := 13) (N := none) (bm 14 16383) rfl rfl (one_of HT_.out (by kernel_rfl)) (by decide) (fun K hK => ?_)
     refine skip_ (w1 := ?_) (by rfl) rfl ?_ ?_
     rotate_left
     ·go_simp
      rfl
     refine hK.out _ _ ?_
     clear hK K
     refine done_ (done_of HT_.out (by kernel_rfl)) ?_
     have n0_ : Aside0 (Kd.N (Kd.slice 3 (Kd.int .i64)) 22 (w49.setCell ⟨go43, (a1_0 : Int).toNat, none⟩ (.int .i64 (rd l1_9 (rd zg a1_0)))) w.heap.size (fun k_ => some k_ ≠ ((.slice zt zk.length zu) : Value).ownBlock ∧ some k_ ≠ (u534002 : Value).ownBlock ∧ some k_ ≠ (.slice (some ⟨go43, 0, none⟩) zg.length zac : Value).ownBlock ∧ k_ ≠ zb ∧ k_ ≠ zn ∧ k_ ≠ zo) (.slice (some ad540) zm.length zao) zm) := ⟨by (with_reducible repeat (first | apply Kd.N_alloc | apply Kd.N_drewN | apply Kd.N_drew)); exact Kd.N_mono (Kd.N_far (p := ⟨go43, (a1_0 : Int).toNat, none⟩) (Kd.N_mono zp.out (fun k_ hk => (⟨hk, fun e_ => hk.2 (by rw [e_]; rfl)⟩ : _ ∧ k_ ≠ go43))) (fun _ hk => hk.2) (.int .i64 (rd l1_9 (rd zg a1_0)))) (fun _ hk => ⟨hk.1.1.1, ⟨hk.1.1.2.1, ⟨hk.1.2, ⟨hk.1.1.2.2.1, ⟨hk.1.1.2.2.2.1, hk.1.1.2.2.2.2⟩⟩⟩⟩⟩)⟩
     have n1_ : Aside0 (Kd.R (Kd.int .i64) 3 (w49.setCell ⟨go43, (a1_0 : Int).toNat, none⟩ (.int .i64 (rd l1_9 (rd zg a1_0)))) w.heap.size (fun k_ => some k_ ≠ (u534002 : Value).ownBlock ∧ some k_ ≠ (.slice (some ⟨go43, 0, none⟩) zg.length zac : Value).ownBlock) (.slice zt zk.length zu) zk) := ⟨by (with_reducible repeat (first | apply rA | apply rN | apply rD)); exact Kd.R_mono (Kd.R_far (p := ⟨go43, (a1_0 : Int).toNat, none⟩) (Kd.R_mono zd.out (fun k_ hk => (⟨hk, fun e_ => hk.2 (by rw [e_]; rfl)⟩ : _ ∧ k_ ≠ go43))) (fun _ hk => hk.2) (.int .i64 (rd l1_9 (rd zg a1_0)))) (fun _ hk => ⟨hk.1.1, hk.1.2⟩)⟩
     have n2_ : Aside0 (Kd.R (Kd.int .i64) 3 (w49.setCell ⟨go43, (a1_0 : Int).toNat, none⟩ (.int .i64 (rd l1_9 (rd zg a1_0)))) w.heap.size (fun k_ => some k_ ≠ ((.slice zt zk.length zu) : Value).ownBlock ∧ some k_ ≠ (.slice (some ⟨go43, 0, none⟩) zg.length zac : Value).ownBlock) u534002 zi) := ⟨by (with_reducible repeat (first | apply rA | apply rN | apply rD)); exact Kd.R_mono (Kd.R_far (p := ⟨go43, (a1_0 : Int).toNat, none⟩) (Kd.R_mono ze.out (fun k_ hk => (⟨hk, fun e_ => hk.2 (by rw [e_]; rfl)⟩ : _ ∧ k_ ≠ go43))) (fun _ hk => hk.2) (.int .i64 (rd l1_9 (rd zg a1_0)))) (fun _ hk => ⟨hk.1.1, hk.1.2⟩)⟩
     have n3_ : Aside0 (Kd.V (Kd.int .i64) 3 (w49.setCell ⟨go43, (a1_0 : Int).toNat, none⟩ (.int .i64 (rd l1_9 (rd zg a1_0)))) w.heap.size (fun k_ => some k_ ≠ (.slice (some ad540) zm.length zao : Value).ownBlock ∧ some k_ ≠ ((.slice zt zk.length zu) : Value).ownBlock ∧ some k_ ≠ (u534002 : Value).ownBlock ∧ some k_ ≠ (.slice (some ⟨go43, 0, none⟩) zg.length zac : Value).ownBlock ∧ k_ ≠ zb ∧ k_ ≠ zn ∧ k_ ≠ zo) (.slice A540_0 (rd_L1 zm x66_2).length c540_0) (rd_L1 zm x66_2)) := ⟨by (with_reducible repeat (first | apply Kd.V_alloc | apply Kd.V_drewN | apply Kd.V_drew)); exact Kd.V_mono (Kd.V_far (p := ⟨go43, (a1_0 : Int).toNat, none⟩) (Kd.V_mono HL540_0.out (fun k_ hk => (⟨hk, fun e_ => hk.2 (by rw [e_]; rfl)⟩ : _ ∧ k_ ≠ go43))) (fun _ hk => hk.2) (.int .i64 (rd l1_9 (rd zg a1_0)))) (fun _ hk => ⟨hk.1.1.1, ⟨hk.1.1.2.1, ⟨hk.1.1.2.2.1, ⟨hk.1.2, ⟨hk.1.1.2.2.2.1, ⟨hk.1.1.2.2.2.2.1, hk.1.1.2.2.2.2.2⟩⟩⟩⟩⟩⟩)⟩
     have n4_ : Aside0 (Kd.R (Kd.int .i64) 3 (w49.setCell ⟨go43, (a1_0 : Int).toNat, none⟩ (.int .i64 (rd l1_9 (rd zg a1_0)))) w.heap.size (fun k_ => some k_ ≠ ((.slice zt zk.length zu) : Value).ownBlock ∧ some k_ ≠ (u534002 : Value).ownBlock) (.slice (some ⟨go43, 0, none⟩) zg.length zac) zam) := ⟨pR HQ51.out⟩
     have n5_ : Aside0 ((w49.setCell ⟨go43, (a1_0 : Int).toNat, none⟩ (.int .i64 (rd l1_9 (rd zg a1_0)))).heap[zb]? = some (.cells #[.int .i64 a1_0, .int .i64 a1_1, .int .i64 a1_2, .int .i64 a1_3, .int .i64 a1_4, .int .i64 a1_5, .int .i64 a1_6, .int .i64 a1_7, .bool a1_8, .slice (some ad545) l1_9.length c1_9] 24 (0, 0))) := ⟨by (with_reducible repeat (first | apply bN | apply bD | apply bA)); refine blk_far ?_ (by have h_ := Kd.R_ne zl.out za.out (by decide); intro e_; exact h_ (by rw [e_]; rfl)) _; (with_reducible repeat (first | apply bN | apply bD | apply bA)); exact za.out⟩
     have n6_ : Aside0 ((w49.setCell ⟨go43, (a1_0 : Int).toNat, none⟩ (.int .i64 (rd l1_9 (rd zg a1_0)))).heap[zn]? = some (.cells #[.slice none 0 0, .slice none 0 0, .slice none 0 0] 29 (0, 0))) := ⟨by (with_reducible repeat (first | apply bN | apply bD | apply bA)); refine blk_far ?_ (by have h_ := Kd.R_ne zl.out zc.out (by decide); intro e_; exact h_ (by rw [e_]; rfl)) _; (with_reducible repeat (first | apply bN | apply bD | apply bA)); exact zc.out⟩
     have n7_ : Aside0 ((w49.setCell ⟨go43, (a1_0 : Int).toNat, none⟩ (.int .i64 (rd l1_9 (rd zg a1_0)))).heap[zo]? = some (.cells #[(.slice zt zk.length zu), .slice none 0 0, u534002] 29 (0, 0))) := ⟨by (with_reducible repeat (first | apply bN | apply bD | apply bA)); refine blk_far ?_ (by have h_ := Kd.R_ne zl.out zf.out (by decide); intro e_; exact h_ (by rw [e_]; rfl)) _; (with_reducible repeat (first | apply bN | apply bD | apply bA)); exact zf.out⟩
     have n8_ : Aside0 (Below w.heap.size w (w49.setCell ⟨go43, (a1_0 : Int).toNat, none⟩ (.int .i64 (rd l1_9 (rd zg a1_0))))) := ⟨qB4 HB GB43 zh zj zy⟩
     (try clear zp)
     (try clear zd)
     (try clear ze)
     (try clear HL540_0)
     (try clear zl)
     (try clear za)
     (try clear zc)
     (try clear zf)
     (try clear HB)
     generalize (w49.setCell ⟨go43, (a1_0 : Int).toNat, none⟩ (.int .i64 (rd l1_9 (rd zg a1_0)))) = w52 at n0_ n1_ n2_ n3_ n4_ n5_ n6_ n7_ n8_ ⊢
     have zp := n0_
     have zd := n1_
     have ze := n2_
     have HL540_0 := n3_
     have zl := n4_
     have za := n5_
     have zc := n6_
     have zf := n7_
     have HB := n8_
     clear n0_ n1_ n2_ n3_ n4_ n5_ n6_ n7_ n8_
     try go_wp2
     replace zp := aM (Kd.N_drew zp.out)
     replace zd := aM (Kd.R_drew zd.out)
     replace ze := aM (Kd.R_drew ze.out)
     replace HL540_0 := aM (Kd.V_drew HL540_0.out)
     replace zl := aM (Kd.R_drew zl.out)
     replace za := aM (blk_drew za.out)
     replace zc := aM (blk_drew zc.out)
     replace zf := aM (blk_drew zf.out)
     replace HB := aM (below_drew1 HB.out)
     refine start_ (n := 9) (S := fun w' => w'.cell? ⟨zo, 0, none⟩ = some ((.slice zt zk.length zu)) ∧ w'.cell? ⟨zo, 1, none⟩ = some (.slice none 0 0) ∧ w'.cell? ⟨zo, 2, none⟩ = some (u534002)) (ds := [8]) (bm 9 0) (by kernel_rfl) rfl rfl (h3 zf) (fun hHeld => ?_); refine with_tabW gradineref29_put.tab19 gradineref29_put.bits19 (fun HT_ HW_ => ?_)
     generalize w52.drew = w53 at zp zd ze HL540_0 zl za zc zf HB hHeld ⊢
     refine pP (i := 0) (N := some 88) (bm 9 1) rfl rfl HT_.out ?_
     refine pP (i := 2) (N := some 90) (bm 9 5) rfl rfl HT_.out ?_
     refine pP (i := 3) (N := some 91) (bm 9 13) rfl rfl HT_.out ?_
     refine pT (i := 1) (N := some 89) (bm 9 15) rfl rfl HT_.out HW_.out hHeld (by rintro w' ⟨s0, s1, s2⟩; go_simp; with_reducible rfl) ?_
     refine one_ (i := 4) (N := some 92) (bm 9 31) rfl rfl (one_of HT_.out (by kernel_rfl)) (by decide) (fun K hK => ?_)
     refine goes_ Try.func31 (by kernel_rfl) rfl #[.slice zt zk.length zu, .slice (some ⟨go43, 0, none⟩) zam.length zac] (by rfl) rfl rfl (by (try simp only [List.map_toArray, List.map_cons, List.map_nil]); first | done | (rw [show zam.length = zg.length from (Kd.R_reads' zl.out).1.symm] <;> rfl) | rfl | (simp only [List.length_drop, List.length_take]; rfl)) ?_
     with_reducible refine (gradineref20_Place.calls k2 _ _ zk _ _ zam z4 _ ?s1 ?s2 ?s3 ?s4 A44.out).mono ?_
     (case s1 => exact sR zd)
     (case s2 => exact sL zd)
     (case s3 => exact sR zl)
     (case s4 => rw [show zam.length = zg.length from (Kd.R_reads' zl.out).1.symm]; exact sL zl)
     rintro e w54 ⟨rfl, hb⟩
     refine ⟨_, rfl, ?_⟩
     replace zp := aM (Kd.N_below (by (with_reducible repeat (first | apply Kd.N_alloc | apply Kd.N_drewN | apply Kd.N_drew)); exact zp.out) hb)
     replace zd := bR zd hb
     replace ze := bR ze hb
     replace HL540_0 := aM (Kd.V_below (pV HL540_0.out) hb)
     replace zl := bR zl hb
     replace za := bK za hb
     replace zc := bK zc hb
     replace zf := bK zf hb
     replace HB := bS (qB3 HB zh zj zy) hb
     (try clear hb)
     (try clear hk)
     (try clear hi)
     refine hK.out _ _ (h3 zf) (fun hHeld => ?_)
     clear hK K
     refine norm_ (a' := ?_) ?_ ?_
     rotate_left
     ·show Act.put _ (some 92) _ = _
      simp only [Act.put, sP, i64_w, i32_w]
      rfl
     refine one_ (i := 5) (N := some 93) (bm 9 63) rfl rfl (one_of HT_.out (by kernel_rfl)) (by decide) (fun K hK => ?_)
     refine value_ (w1 := ?_) (v := ?_) (by rfl) rfl ?_ ?_
     rotate_left 2
     ·go_simp
      constructor
      ·rfl
      ·rfl
     refine hK.out _ _ ⟨(blk_cell (blk_alloc zf.out _) 0).trans rfl, (blk_cell (blk_alloc zf.out _) 1).trans rfl, (blk_cell (blk_alloc zf.out _) 2).trans rfl⟩ (fun hHeld => ?_)
     clear hK K
     refine norm_ (a' := ?_) ?_ ?_
     rotate_left
     ·show Act.put _ (some 93) _ = _
      simp only [Act.put, sP, i64_w, i32_w]
      rfl
     refine one_ (i := 6) (N := some 94) (bm 9 127) rfl rfl (one_of HT_.out (by kernel_rfl)) (by decide) (fun K hK => ?_)
     refine Kd.R_append_step (Kd.int .i64) (w0 := w) w.heap.size (by rfl) (.tmp 89) (.tmp 93) 22 3 (.int .i64 0) 8 rfl Try.underlying22 info3 rfl (by decide) (by omega) u534002 zi z4 [.int .i64 z4] (fun k_ => some k_ ≠ ((.slice zt zk.length zu) : Value).ownBlock ∧ some k_ ≠ (.slice (some ⟨go43, 0, none⟩) zg.length zac : Value).ownBlock) (fun _ => False) rfl rfl ?aP (fun _ hk => hk.elim) ?aF ?aO ?aB ?aS ?aL ?_
     (case aP => exact rfl)
     (case aB => exact (qB3 HB zh zj zy))
     (case aF => exact (fun k_ hk => ⟨Kd.fresh' (Kd.R_lt (pR zd.out)) k_ hk, Kd.fresh' (Kd.R_lt (pR zl.out)) k_ hk⟩))
     (case aO => exact (pR ze.out))
     (case aS => exact (below_size (qB3 HB zh zj zy)))
     (case aL => have := LMc45.out; omega)
     intro v549 w55 ho hb hg hat
     rw [← Ny548.out] at ho
     replace zp := aM (Kd.N_afterv (ok := (fun k_ => some k_ ≠ ((.slice zt zk.length zu) : Value).ownBlock ∧ some k_ ≠ (.slice (some ⟨go43, 0, none⟩) zg.length zac : Value).ownBlock ∧ k_ ≠ zb ∧ k_ ≠ zn ∧ k_ ≠ zo)) (by (with_reducible repeat (first | apply Kd.N_alloc | apply Kd.N_drewN | apply Kd.N_drew)); exact Kd.N_mono zp.out (fun _ hk => ⟨⟨hk.1, ⟨hk.2.2.1, ⟨hk.2.2.2.1, ⟨hk.2.2.2.2.1, hk.2.2.2.2.2⟩⟩⟩⟩, hk.2.1⟩)) hg hat)
     replace zd := aM (Kd.R_after (ok := (fun k_ => some k_ ≠ (.slice (some ⟨go43, 0, none⟩) zg.length zac : Value).ownBlock)) (by (with_reducible repeat (first | apply rA | apply rN | apply rD)); exact Kd.R_mono zd.out (fun _ hk => ⟨hk.2, hk.1⟩)) hg hat)
     replace za := aM (blk_grown (g := zb) (pK za.out) hg (Kd.R_ne ze.out za.out (by decide)))
     replace zc := aM (blk_grown (g := zn) (pK zc.out) hg (Kd.R_ne ze.out zc.out (by decide)))
     replace zf := aM (blk_grown (g := zo) (pK zf.out) hg (Kd.R_ne ze.out zf.out (by decide)))
     replace HL540_0 := aM (Kd.V_afterv (ok := (fun k_ => some k_ ≠ (.slice (some ad540) zm.length zao : Value).ownBlock ∧ some k_ ≠ ((.slice zt zk.length zu) : Value).ownBlock ∧ some k_ ≠ (.slice (some ⟨go43, 0, none⟩) zg.length zac : Value).ownBlock ∧ k_ ≠ zb ∧ k_ ≠ zn ∧ k_ ≠ zo)) (by (with_reducible repeat (first | apply Kd.V_alloc | apply Kd.V_drewN | apply Kd.V_drew)); exact Kd.V_mono HL540_0.out (fun _ hk => ⟨⟨hk.1, ⟨hk.2.1, ⟨hk.2.2.2.1, ⟨hk.2.2.2.2.1, ⟨hk.2.2.2.2.2.1, hk.2.2.2.2.2.2⟩⟩⟩⟩⟩, hk.2.2.1⟩)) hg hat)
     replace zl := aM (Kd.R_after (ok := (fun k_ => some k_ ≠ ((.slice zt zk.length zu) : Value).ownBlock)) (pR zl.out) hg hat)
     replace HB := aM (hb)
     have zay := aM (ho)
     clear ze
     clear ho hb hg hat
     obtain ⟨zat, zau, za9⟩ := Kd.R_slice zay.out
     (first | subst za9 | (injection za9 with f1_ f2_ f3_; have f4_ := f1_.symm; have f5_ := f3_.symm; clear f1_ f2_ f3_; subst f4_; subst f5_))
     refine hK.out _ _ (h3 zf) (fun hHeld => ?_)
     clear hK K
     refine norm_ (a' := ?_) ?_ ?_
     rotate_left
     ·show Act.put _ (some 94) _ = _
      simp only [Act.put, sP, i64_w, i32_w]
      rfl
     refine pP (i := 7) (N := some 95) (bm 9 255) rfl rfl HT_.out ?_
     refine last_ (i := 8) (N := none) (bm 9 511) rfl rfl (one_of HT_.out (by kernel_rfl)) (by decide) (fun K hK => ?_)
     have hs57 : w55.cell? ⟨zo, 2, none⟩ = some (u534002) := (blk_cell zf.out 2).trans rfl
     have hfs57 := blk_frozen zf.out 2
     have hns57_0 := zw.out
     have hns57_1 := zx.out
     have hms57_0 := z2.out
     have hms57_1 := z3.out
     refine skip_ (w1 := ?_) (by rfl) rfl ?_ ?_
     rotate_left
     ·go_simp
      rfl
     refine hK.out _ _ ?_
     clear hK K
     refine done_ (done_of HT_.out (by kernel_rfl)) ?_
     try go_wp2
     go_roundg k2
     case measure => have := HK1.out; have := HK2.out; omega
     case rel => exact ⟨(wrap64 (x66_2 + 1)), (zan), (.slice zat zan.length zau), (pF), H', ⟨by have := HK1.out; have := HK2.out; omega⟩, ⟨by (with_reducible repeat (first | apply Kd.N_alloc | apply Kd.N_drewN | apply Kd.N_drew)); exact Kd.N_mono (Kd.N_far (p := ⟨zo, 2, none⟩) (Kd.N_mono zp.out (fun k_ hk => (⟨hk, hk.1.2.2.2.2⟩ : _ ∧ k_ ≠ zo))) (fun _ hk => hk.2) (.slice zat zan.length zau)) (fun _ hk => ⟨hk.1.1.1, ⟨hk.1.2, ⟨hk.1.1.2.2.1, ⟨hk.1.1.2.2.2.1, hk.1.1.2.2.2.2⟩⟩⟩⟩)⟩, ⟨by (with_reducible repeat (first | apply rA | apply rN | apply rD)); exact Kd.R_mono (Kd.R_far (p := ⟨zo, 2, none⟩) (Kd.R_types zd.out zf.out (by decide)) (fun _ hk => hk.2) (.slice zat zan.length zau)) (fun _ hk => hk.1.2)⟩, ⟨by (with_reducible repeat (first | apply rA | apply rN | apply rD)); exact Kd.R_mono (Kd.R_far (p := ⟨zo, 2, none⟩) (Kd.R_types zay.out zf.out (by decide)) (fun _ hk => hk.2) (.slice zat zan.length zau)) (fun _ hk => hk.1.1)⟩, ⟨by (with_reducible repeat (first | apply bN | apply bD | apply bA)); refine blk_far ?_ zw.out _; (with_reducible repeat (first | apply bN | apply bD | apply bA)); exact za.out⟩, ⟨by (with_reducible repeat (first | apply bN | apply bD | apply bA)); refine blk_far ?_ zx.out _; (with_reducible repeat (first | apply bN | apply bD | apply bA)); exact zc.out⟩, ⟨by (with_reducible repeat (first | apply bN | apply bD | apply bA)); refine blk_put (cs := #[(.slice zt zk.length zu), .slice none 0 0, u534002]) ?_ 2 _ rfl; (with_reducible repeat (first | apply bN | apply bD | apply bA)); exact zf.out⟩, ⟨qB3 HB zh zj zy⟩⟩
end Go.Proofs.Yticcamciaohepaa.Q
