/- Texts of the proof of InferRight, part 2: what functions of the program compute, and that they compute it. -/
import Derived.Test.YtcdiobcldhiemaaWordsMore
import Derived.Test.YtcdiobcldhiemaaKInferRight1
namespace Go.Proofs.Ytcdiobcldhiemaa.Q
open Go.RowKit Go.Proofs.YtcdiobcldhiemaaW.PrintWords Go.Proofs.YtcdiobcldhiemaaW.PrintLast Go.Proofs.YtcdiobcldhiemaaW.PrintMore
attribute [local go_sem] max2_int min2_int max_two min_two max_three min_three max_four min_four   -- for this text's walks alone
set_option linter.unusedVariables false
set_option linter.unusedSimpArgs false
mutual
def view_Slice.j0 : Nat → Int → Int → Int → Int → Bool → Int → List Int → List Int → Option (Int × List Int × List Int × Int)
 | 0, _, _, _, _, _, _, _, _ => none
 | k + 1, x1, x2, x3, x4, x27, zt, zn, zr => if x27 = true then (some (0, ([] : List Int), ([] : List Int), 10)) else (if 0 ≤ x1 then (if x1 < (zn.length : Int) then (if x2 < 0 then (view_Slice.j1 k x1 x2 x3 x4 (rd zn x1) true zt zn zr) else (if x2 ≥ (rd zn x1) then (view_Slice.j1 k x1 x2 x3 x4 (rd zn x1) true zt zn zr) else (if x3 < 1 then (view_Slice.j1 k x1 x2 x3 x4 (rd zn x1) true zt zn zr) else (view_Slice.j1 k x1 x2 x3 x4 (rd zn x1) (decide (x3 > (rd zn x1))) zt zn zr)))) else (none)) else (none))
def view_Slice.j1 : Nat → Int → Int → Int → Int → Int → Bool → Int → List Int → List Int → Option (Int × List Int × List Int × Int)
 | 0, _, _, _, _, _, _, _, _, _ => none
 | k + 1, x1, x2, x3, x4, x12, x49, zt, zn, zr => if x49 = true then (some (0, ([] : List Int), ([] : List Int), 11)) else ((view_copied.f zt zn zr).bind fun bt179 => (if x3 > 1 then (if x4 = 0 then (view_Slice.j2 k x1 x2 x3 x4 x12 true zt zn zr bt179.1 bt179.2.1 bt179.2.2) else (if x4 ≥ x12 then (view_Slice.j2 k x1 x2 x3 x4 x12 true zt zn zr bt179.1 bt179.2.1 bt179.2.2) else (view_Slice.j2 k x1 x2 x3 x4 x12 (decide (x4 ≤ (wrap64 (-x12)))) zt zn zr bt179.1 bt179.2.1 bt179.2.2))) else (view_Slice.j3 k x1 x2 x3 zt zn zr bt179.1 bt179.2.1 bt179.2.2)))
def view_Slice.j3 : Nat → Int → Int → Int → Int → List Int → List Int → Int → List Int → List Int → Option (Int × List Int × List Int × Int)
 | 0, _, _, _, _, _, _, _, _, _ => none
 | k + 1, x1, x2, x3, zt, zn, zr, z0, z1, zw => if x2 > 0 then (if 0 ≤ x1 then (if x1 < (zr.length : Int) then (if x1 < (z1.length : Int) then ((some (z1.set (x1 : Int).toNat x3 : List Int)).bind fun z9 => (if x3 = 1 then (if x1 < (zw.length : Int) then (some (wrap64 (z0 + (wrap64 (x2 * (rd zr x1)))), z9, (zw.set (x1 : Int).toNat 0), 0)) else (none)) else (some (wrap64 (z0 + (wrap64 (x2 * (rd zr x1)))), z9, zw, 0)))) else (none)) else (none)) else (none)) else (if 0 ≤ x1 then (if x1 < (z1.length : Int) then ((some (z1.set (x1 : Int).toNat x3 : List Int)).bind fun zaa => (if x3 = 1 then (if x1 < (zw.length : Int) then (some (z0, zaa, (zw.set (x1 : Int).toNat 0), 0)) else (none)) else (some (z0, zaa, zw, 0)))) else (none)) else (none))
def view_Slice.j2 : Nat → Int → Int → Int → Int → Int → Bool → Int → List Int → List Int → Int → List Int → List Int → Option (Int × List Int × List Int × Int)
 | 0, _, _, _, _, _, _, _, _, _, _, _, _ => none
 | k + 1, x1, x2, x3, x4, x12, x67, zt, zn, zr, z0, z1, zw => if x67 = true then (some (0, ([] : List Int), ([] : List Int), 11)) else (if (wrap64 (x2 + (wrap64 ((wrap64 (x3 - 1)) * x4)))) < 0 then (some (0, ([] : List Int), ([] : List Int), 11)) else (if (wrap64 (x2 + (wrap64 ((wrap64 (x3 - 1)) * x4)))) ≥ x12 then (some (0, ([] : List Int), ([] : List Int), 11)) else (if 0 ≤ x1 then (if x1 < (zr.length : Int) then (if x1 < (zw.length : Int) then (view_Slice.j3 k x1 x2 x3 zt zn zr z0 z1 (zw.set (x1 : Int).toNat (wrap64 ((rd zr x1) * x4)))) else (none)) else (none)) else (none))))
end
def view_Slice.f (k : Nat) (a0_0 : Int) (l0_1 : List Int) (l0_2 : List Int) (a1 : Int) (a2 : Int) (a3 : Int) (a4 : Int) : Option (Int × List Int × List Int × Int) := (view_right.f k a0_0 l0_1 l0_2).bind fun zam => (if zam = true then (if a1 < 0 then (view_Slice.j0 k a1 a2 a3 a4 true a0_0 l0_1 l0_2) else (view_Slice.j0 k a1 a2 a3 a4 (decide (a1 ≥ (l0_1.length : Int))) a0_0 l0_1 l0_2)) else (some (0, ([] : List Int), ([] : List Int), 1)))
def view_Slice.T15 : Bool × List (List Nat × List Nat) := (true, [([], []), ([0], [0]), ([], []), ([], []), ([3], [3]), ([], []), ([4, 5], [4, 5]), ([6], [6]), ([], []), ([7, 8], [7, 8]), ([1, 2, 0, 1, 2, 3, 4, 5, 6, 7, 8, 9], [1, 2]), ([10, 9, 0, 1, 2, 3, 4, 5, 6, 7, 8, 9], [9, 10])])
def view_Slice.B15 : List Nat := [0, 1, 0, 0, 8, 0, 56, 120, 0, 504, 1023, 2047]
theorem view_Slice.tab15 : rtab .any (opsOf Try.f45 15) = view_Slice.T15 := by kernel_rfl
theorem view_Slice.bits15 : waitsOk view_Slice.T15.2 view_Slice.B15 = true := by kernel_rfl
def view_Slice.T17 : Bool × List (List Nat × List Nat) := (true, [([], []), ([0], [0]), ([], []), ([], []), ([3], [3]), ([], []), ([4, 5], [4, 5]), ([6], [6]), ([2, 7], [2, 7]), ([1, 8], [1, 8]), ([0, 1, 2, 3, 4, 5, 6, 7, 8, 9], []), ([10, 9, 0, 1, 2, 3, 4, 5, 6, 7, 8, 9], [9, 10])])
def view_Slice.B17 : List Nat := [0, 1, 0, 0, 8, 0, 56, 120, 252, 511, 1023, 2047]
theorem view_Slice.tab17 : rtab .any (opsOf Try.f45 17) = view_Slice.T17 := by kernel_rfl
theorem view_Slice.bits17 : waitsOk view_Slice.T17.2 view_Slice.B17 = true := by kernel_rfl
set_option maxHeartbeats 8000000 in
set_option maxRecDepth 100000 in
theorem view_Slice.calls (k : Nat) (a0_0 : Int) (A0_1 : Option Addr) (c0_1 : Nat) (l0_1 : List Int) (A0_2 : Option Addr) (c0_2 : Nat) (l0_2 : List Int) (a1 : Int) (a2 : Int) (a3 : Int) (a4 : Int) (r1 : Int) (r2 : List Int) (r3 : List Int) (r4 : Int) (w : World) (hr0_1 : Kd.C (Kd.int .i64) w A0_1 l0_1.length l0_1) (hc0_1 : l0_1.length ≤ c0_1) (hr0_2 : Kd.C (Kd.int .i64) w A0_2 l0_2.length l0_2) (hc0_2 : l0_2.length ≤ c0_2) (h : view_Slice.f k a0_0 l0_1 l0_2 a1 a2 a3 a4 = some (r1, r2, r3, r4)) :
  Calls Try.prog 45 #[.agg #[.int .i64 a0_0, .slice A0_1 l0_1.length c0_1, .slice A0_2 l0_2.length c0_2], .int .i64 a1, .int .i64 a2, .int .i64 a3, .int .i64 a4] w fun e w' => ∃ v1_ v2_ : Value, e = .returned (.tuple #[.agg #[.int .i64 r1, v1_, v2_], .int .i64 r4]) ∧ Kd.R (Kd.int .i64) 3 w' w.heap.size (fun k_ => some k_ ≠ (v2_ : Value).ownBlock) v1_ r2 ∧ Kd.R (Kd.int .i64) 3 w' w.heap.size (fun k_ => some k_ ≠ (v1_ : Value).ownBlock) v2_ r3 ∧ Below w.heap.size w w' := by
 have hu44 := Try.underlying44
 have zag := aM hr0_1
 have zan := aM hc0_1
 clear hr0_1 hc0_1
 have z7 := aM hr0_2
 have zao := aM hc0_2
 clear hr0_2 hc0_2
 have HB := aM (Below.refl w.heap.size w)
 have H : ((view_right.f k a0_0 l0_1 l0_2).bind fun zam => (if zam = true then (if a1 < 0 then (view_Slice.j0 k a1 a2 a3 a4 true a0_0 l0_1 l0_2) else (view_Slice.j0 k a1 a2 a3 a4 (decide (a1 ≥ (l0_1.length : Int))) a0_0 l0_1 l0_2)) else (some (0, ([] : List Int), ([] : List Int), 1)))) = some (r1, r2, r3, r4) := h
 clear h
 replace H := Option.bind_eq_some_iff.mp H
 obtain ⟨zam, A60, H⟩ := H
 try dsimp only at H
 have A6 := aM A60
 clear A60
 by_cases c7 : zam = true
 rotate_left
 ·replace c7 := Bool.eq_false_iff.mpr c7
  subst c7
  rw [if_neg (show ¬ (false = true) by decide)] at H
  simp only [Option.some.injEq, Prod.mk.injEq] at H
  obtain ⟨rfl, rfl, rfl, rfl⟩ := H
  go_enter Try.func45, Try.ntmps45
  go_wp2_with (first | ((with_reducible refine gate_dst (N := 5) rfl ?_); (try (refine gate_guard (by rfl) ?_; dsimp only)); refine box_event ?hg (N := 5) ?hd (cs := #[.int .i64 a0_0, .slice A0_1 l0_1.length c0_1, .slice A0_2 l0_2.length c0_2]) (t := 44) ?hr ?_; (case hd => rfl); (case hg => rfl); (case hr => first | (go_simp; done) | (go_simp; rfl)); intro zu hg w124 hbox hb; have zf := aM (hbox); have zap := gE (w := w) hg (qB HB); have zl := zap; replace HB := bS (qB HB) hb; clear hb hbox hg) | ((with_reducible refine gate_dst (N := 10) rfl ?_); (try (refine gate_guard (by rfl) ?_; dsimp only)); refine box_event ?hg (N := 10) ?hd (cs := #[.int .i64 0, .slice none 0 0, .slice none 0 0]) (t := 44) ?hr ?_; (case hd => rfl); (case hg => rfl); (case hr => first | (go_simp; done) | (go_simp; rfl)); intro zm hg w125 hbox hb; have ze := aM (hbox); have zaq := gE (w := w) hg (qB1 HB zl); have zp := zaq; replace HB := bS (qB1 HB zl) hb; have zj := nL hg zf; have zk := nG hg zf; replace zf := bK zf hb; clear hb hbox hg; have hnb126 := zj.out; have hnc126 := zk.out; obtain ⟨hcz127_0, hcz127_1, hcz127_2, hfz127_0, hfz127_1, hfz127_2⟩ := blk3 zf.out) | ((with_reducible refine gate_callee (f := 49) rfl ?_); refine goesL_ (some 16) rfl rfl Try.func49 (by kernel_rfl) rfl #[.agg #[.int .i64 a0_0, .slice A0_1 l0_1.length c0_1, .slice A0_2 l0_2.length c0_2]] rfl pA ?_; (with_reducible refine (view_right.calls k a0_0 _ _ l0_1 _ _ l0_2 false _ ?s1 ?s2 ?s3 ?s4 A6.out).mono ?_); (case s1 => exact sC zag HB); (case s2 => exact zan.out); (case s3 => exact sC z7 HB); (case s4 => exact zao.out); rintro e w128 ⟨rfl, hb⟩; refine ⟨_, rfl, ?_⟩; replace zf := bK zf hb; replace ze := bK ze hb; replace HB := bS (qB2 HB zl zp) hb; (try clear hb); (try clear hk); (try clear hi); obtain ⟨hcz129_0, hcz129_1, hcz129_2, hfz129_0, hfz129_1, hfz129_2⟩ := blk3 ze.out))
  refine bodyPost_ret (results_ct rfl _ _ zm 44 #[.int .i64 0, .slice none 0 0, .slice none 0 0] (0, 0) _ rfl (by exact P3 ze) Try.underlying44 rfl (by kernel_rfl)) rfl ?_
  exact ⟨_, _, pE, pN, pN, qB2 HB zl zp⟩
 subst c7
 rw [if_pos rfl] at H
 have HC8 := aM H
 clear H
 go_enter Try.func45, Try.ntmps45
 go_upto_region 3 with (first | ((with_reducible refine gate_dst (N := 5) rfl ?_); (try (refine gate_guard (by rfl) ?_; dsimp only)); refine box_event ?hg (N := 5) ?hd (cs := #[.int .i64 a0_0, .slice A0_1 l0_1.length c0_1, .slice A0_2 l0_2.length c0_2]) (t := 44) ?hr ?_; (case hd => rfl); (case hg => rfl); (case hr => first | (go_simp; done) | (go_simp; rfl)); intro zu hg w9 hbox hb; have zf := aM (hbox); have zap := gE (w := w) hg (qB HB); have zl := zap; replace HB := bS (qB HB) hb; clear hb hbox hg) | ((with_reducible refine gate_dst (N := 10) rfl ?_); (try (refine gate_guard (by rfl) ?_; dsimp only)); refine box_event ?hg (N := 10) ?hd (cs := #[.int .i64 0, .slice none 0 0, .slice none 0 0]) (t := 44) ?hr ?_; (case hd => rfl); (case hg => rfl); (case hr => first | (go_simp; done) | (go_simp; rfl)); intro zm hg w10 hbox hb; have ze := aM (hbox); have zaq := gE (w := w) hg (qB1 HB zl); have zp := zaq; replace HB := bS (qB1 HB zl) hb; have zj := nL hg zf; have zk := nG hg zf; replace zf := bK zf hb; clear hb hbox hg; have hnb11 := zj.out; have hnc11 := zk.out; obtain ⟨hcz12_0, hcz12_1, hcz12_2, hfz12_0, hfz12_1, hfz12_2⟩ := blk3 zf.out) | ((with_reducible refine gate_callee (f := 49) rfl ?_); refine goesL_ (some 16) rfl rfl Try.func49 (by kernel_rfl) rfl #[.agg #[.int .i64 a0_0, .slice A0_1 l0_1.length c0_1, .slice A0_2 l0_2.length c0_2]] rfl pA ?_; (with_reducible refine (view_right.calls k a0_0 _ _ l0_1 _ _ l0_2 true _ ?s1 ?s2 ?s3 ?s4 A6.out).mono ?_); (case s1 => exact sC zag HB); (case s2 => exact zan.out); (case s3 => exact sC z7 HB); (case s4 => exact zao.out); rintro e w13 ⟨rfl, hb⟩; refine ⟨_, rfl, ?_⟩; replace zf := bK zf hb; replace ze := bK ze hb; replace HB := bS (qB2 HB zl zp) hb; (try clear hb); (try clear hk); (try clear hi)))
 (try simp only [Act.put, sP])
 go_cut [27] (fun v27 wc => ∃ (kq : Nat) (x27_7 : Bool), v27 = .bool x27_7 ∧ Aside0 (view_Slice.j0 kq a1 a2 a3 a4 x27_7 a0_0 l0_1 l0_2 = some (r1, r2, r3, r4)) ∧ Aside0 (kq ≤ k) ∧ Aside0 (wc.heap[zu]? = some (.cells #[.int .i64 a0_0, (.slice A0_1 l0_1.length c0_1), (.slice A0_2 l0_2.length c0_2)] 44 (0, 0))) ∧ Aside0 (wc.heap[zm]? = some (.cells #[.int .i64 0, (.slice none 0 0), (.slice none 0 0)] 44 (0, 0))) ∧ Aside0 (Below w.heap.size w wc))
 case first =>
  have H := HC8.out
  clear HC8
  by_cases c14 : a1 < 0
  ·rw [if_pos c14] at H
   have zab : decide (a1 < 0) = true := decide_eq_true c14
   clear c14
   (first | rw [zab] | (simp only [i64_w, i32_w]; rw [zab]) | skip)
   have H' := aM H
   clear H
   go_wp2
   go_meet
   case rel => exact ⟨_, (true), (pF), H', ⟨by first | omega | exact Nat.le_refl _⟩, ⟨pK zf.out⟩, ⟨pK ze.out⟩, ⟨qB2 HB zl zp⟩⟩
  rw [if_neg c14] at H
  have zab : decide (a1 < 0) = false := decide_eq_false c14
  clear c14
  (first | rw [zab] | (simp only [i64_w, i32_w]; rw [zab]) | skip)
  have H' := aM H
  clear H
  have hnb15 := zj.out
  have hnc15 := zk.out
  obtain ⟨hcz16_0, hcz16_1, hcz16_2, hfz16_0, hfz16_1, hfz16_2⟩ := blk3 zf.out
  go_wp2
  go_meet
  case rel => exact ⟨_, (decide (a1 ≥ (l0_1.length : Int))), (pF), H', ⟨by first | omega | exact Nat.le_refl _⟩, ⟨pK zf.out⟩, ⟨pK ze.out⟩, ⟨qB2 HB zl zp⟩⟩
 case rest =>
  clear HC8
  try clear c7
  try clear hcz12_0 hcz12_1 hcz12_2 hfz12_0 hfz12_1 hfz12_2
  obtain ⟨kq, x27_7, rfl, HA, HJ7, zf, ze, HB⟩ := hcut
  cases kq with
  | zero => exact absurd HA.out (by simp [view_Slice.j0])
  | succ kj7 =>
   have H := HA.out
   clear HA
   simp only [view_Slice.j0] at H
   by_cases c17 : x27_7 = true
   ·subst c17
    rw [if_pos rfl] at H
    simp only [Option.some.injEq, Prod.mk.injEq] at H
    obtain ⟨rfl, rfl, rfl, rfl⟩ := H
    have hnb18 := zk.out
    have hnc18 := zj.out
    obtain ⟨hcz19_0, hcz19_1, hcz19_2, hfz19_0, hfz19_1, hfz19_2⟩ := blk3 ze.out
    go_wp2
    refine bodyPost_ret (results_ct rfl _ _ zm 44 #[.int .i64 0, .slice none 0 0, .slice none 0 0] (0, 0) _ rfl (by exact P3 ze) Try.underlying44 rfl (by kernel_rfl)) rfl ?_
    exact ⟨_, _, pE, pN, pN, qB2 HB zl zp⟩
   replace c17 := Bool.eq_false_iff.mpr c17
   subst c17
   rw [if_neg (show ¬ (false = true) by decide)] at H
   by_cases c20 : 0 ≤ a1
   rotate_left
   ·rw [if_neg c20] at H
    exact absurd H (by simp)
   rw [if_pos c20] at H
   have c20b0 : decide (0 ≤ a1) = true := decide_eq_true c20
   clear c20
   by_cases c21 : a1 < (l0_1.length : Int)
   rotate_left
   ·rw [if_neg c21] at H
    exact absurd H (by simp)
   rw [if_pos c21] at H
   have c21b0 : decide (a1 < (l0_1.length : Int)) = true := decide_eq_true c21
   clear c21
   have HC22 := aM H
   clear H
   have hnb23 := zj.out
   have hnc23 := zk.out
   obtain ⟨hcz24_0, hcz24_1, hcz24_2, hfz24_0, hfz24_1, hfz24_2⟩ := blk3 zf.out
   have p178 : 0 ≤ (a1 : Int) := of_decide_eq_true pD
   have q178 : a1 < (l0_1.length : Int) := of_decide_eq_true pD
   obtain ⟨ad178, e178, hx178_0⟩ := Kd.at_int zag.out a1 p178 q178
   cases e178
   replace hx178_0 := (HB.out.cell (World.block_lt_of_cell? w _ hx178_0)).trans hx178_0
   replace p178 := eq_true p178
   replace q178 := eq_true q178
   go_upto_region 6 with (fail)
   go_cut [49] (fun v49 wc => ∃ (kq : Nat) (x49_21 : Bool), v49 = .bool x49_21 ∧ Aside0 (view_Slice.j1 kq a1 a2 a3 a4 (rd l0_1 a1) x49_21 a0_0 l0_1 l0_2 = some (r1, r2, r3, r4)) ∧ Aside0 (kq ≤ kj7) ∧ Aside0 (wc.heap[zu]? = some (.cells #[.int .i64 a0_0, (.slice (some ad178) l0_1.length c0_1), (.slice A0_2 l0_2.length c0_2)] 44 (0, 0))) ∧ Aside0 (wc.heap[zm]? = some (.cells #[.int .i64 0, (.slice none 0 0), (.slice none 0 0)] 44 (0, 0))) ∧ Aside0 (Below w.heap.size w wc))
   case first =>
    have H := HC22.out
    clear HC22
    by_cases c25 : a2 < 0
    ·rw [if_pos c25] at H
     have zac : decide (a2 < 0) = true := decide_eq_true c25
     clear c25
     (first | rw [zac] | (simp only [i64_w, i32_w]; rw [zac]) | skip)
     have H' := aM H
     clear H
     go_wp2
     go_meet
     case rel => exact ⟨_, (true), (pF), H', ⟨by have := HJ7.out; first | omega | exact Nat.le_refl _⟩, ⟨pK zf.out⟩, ⟨pK ze.out⟩, ⟨qB2 HB zl zp⟩⟩
    rw [if_neg c25] at H
    have zac : decide (a2 < 0) = false := decide_eq_false c25
    clear c25
    (first | rw [zac] | (simp only [i64_w, i32_w]; rw [zac]) | skip)
    by_cases c26 : a2 ≥ (rd l0_1 a1)
    ·rw [if_pos c26] at H
     have c26b0 : decide ((rd l0_1 a1) ≤ a2) = true := decide_eq_true c26
     clear c26
     have H' := aM H
     clear H
     go_wp2
     go_meet
     case rel => exact ⟨_, (true), (pF), H', ⟨by have := HJ7.out; first | omega | exact Nat.le_refl _⟩, ⟨pK zf.out⟩, ⟨pK ze.out⟩, ⟨qB2 HB zl zp⟩⟩
    rw [if_neg c26] at H
    have c26b0 : decide ((rd l0_1 a1) ≤ a2) = false := decide_eq_false c26
    clear c26
    by_cases c27 : a3 < 1
    ·rw [if_pos c27] at H
     have c27b0 : decide (a3 < 1) = true := decide_eq_true c27
     clear c27
     have H' := aM H
     clear H
     go_wp2
     go_meet
     case rel => exact ⟨_, (true), (pF), H', ⟨by have := HJ7.out; first | omega | exact Nat.le_refl _⟩, ⟨pK zf.out⟩, ⟨pK ze.out⟩, ⟨qB2 HB zl zp⟩⟩
    rw [if_neg c27] at H
    have c27b0 : decide (a3 < 1) = false := decide_eq_false c27
    clear c27
    have H' := aM H
    clear H
    go_wp2
    go_meet
    case rel => exact ⟨_, (decide (a3 > (rd l0_1 a1))), (pF), H', ⟨by have := HJ7.out; first | omega | exact Nat.le_refl _⟩, ⟨pK zf.out⟩, ⟨pK ze.out⟩, ⟨qB2 HB zl zp⟩⟩
   case rest =>
    clear HC22
    try clear c17
    try clear c20b0
    try clear c21b0
    try clear hcz24_0 hcz24_1 hcz24_2 hfz24_0 hfz24_1 hfz24_2
    try clear hx178_0
    try clear p178
    try clear q178
    obtain ⟨kq, x49_21, rfl, HA, zar, zf, ze, HB⟩ := hcut
    cases kq with
    | zero => exact absurd HA.out (by simp [view_Slice.j1])
    | succ za9 =>
     have H := HA.out
     clear HA
     simp only [view_Slice.j1] at H
     by_cases c28 : x49_21 = true
     ·subst c28
      rw [if_pos rfl] at H
      simp only [Option.some.injEq, Prod.mk.injEq] at H
      obtain ⟨rfl, rfl, rfl, rfl⟩ := H
      have hnb29 := zk.out
      have hnc29 := zj.out
      obtain ⟨hcz30_0, hcz30_1, hcz30_2, hfz30_0, hfz30_1, hfz30_2⟩ := blk3 ze.out
      go_wp2
      refine bodyPost_ret (results_ct rfl _ _ zm 44 #[.int .i64 0, .slice none 0 0, .slice none 0 0] (0, 0) _ rfl (by exact P3 ze) Try.underlying44 rfl (by kernel_rfl)) rfl ?_
      exact ⟨_, _, pE, pN, pN, qB2 HB zl zp⟩
     replace c28 := Bool.eq_false_iff.mpr c28
     subst c28
     rw [if_neg (show ¬ (false = true) by decide)] at H
     replace H := Option.bind_eq_some_iff.mp H
     obtain ⟨⟨zq, z4, z3⟩, zba, H⟩ := H
     try dsimp only at H
     have A31 := aM zba
     clear zba
     have HC32 := aM H
     clear H
     have hnb33 := zj.out
     have hnc33 := zk.out
     obtain ⟨hcz34_0, hcz34_1, hcz34_2, hfz34_0, hfz34_1, hfz34_2⟩ := blk3 zf.out
     go_upto_if 54 with (first | ((with_reducible refine gate_callee (f := 72) rfl ?_); refine goesL_ (some 52) rfl rfl Try.func72 (by kernel_rfl) rfl #[.agg #[.int .i64 a0_0, .slice (some ad178) l0_1.length c0_1, .slice A0_2 l0_2.length c0_2]] rfl pA ?_; (with_reducible refine (view_copied.calls a0_0 _ _ l0_1 _ _ l0_2 zq z4 z3 _ ?s1 ?s2 ?s3 ?s4 A31.out).mono ?_); (case s1 => exact sC zag HB); (case s2 => exact zan.out); (case s3 => exact sC z7 HB); (case s4 => exact zao.out); rintro e w35 ⟨v181, v184, rfl, ho0, ho1, hb⟩; refine ⟨_, rfl, ?_⟩; have z5 := aM (Kd.R_lower ho0 (below_size (qB2 HB zl zp))); have z6 := aM (Kd.R_lower ho1 (below_size (qB2 HB zl zp))); replace zf := bK zf hb; replace ze := bK ze hb; replace HB := bS (qB2 HB zl zp) hb; (try clear hb); (try clear hk); (try clear hi); (try clear ho0); (try clear ho1)) | ((with_reducible refine gate_dst (N := 13) rfl ?_); (try (refine gate_guard (by rfl) ?_; dsimp only)); refine box_event ?hg (N := 13) ?hd (cs := #[.int .i64 0, .slice none 0 0, .slice none 0 0]) (t := 44) ?hr ?_; (case hd => rfl); (case hg => rfl); (case hr => first | (go_simp; done) | (go_simp; rfl)); intro zh hg w36 hbox hb; replace z5 := bR z5 hb; replace z6 := bR z6 hb; have zg := aM (hbox); have GW186 := gE (w := w) hg (qB2 HB zl zp); have zx := GW186; replace HB := bS (qB2 HB zl zp) hb; have zo := nL hg zf; have zv := nG hg zf; replace zf := bK zf hb; have zi := nL hg ze; have zs := nG hg ze; replace ze := bK ze hb; clear hb hbox hg; have hnb37 := zv.out; have hnc37 := zo.out; have hnb38 := zs.out; have hnc38 := zi.out; obtain ⟨hcz39_0, hcz39_1, hcz39_2, hfz39_0, hfz39_1, hfz39_2⟩ := blk3 zg.out; obtain ⟨zai, zaj, eo40⟩ := Kd.R_slice z5.out; subst eo40; obtain ⟨za0, zak, eo41⟩ := Kd.R_slice z6.out; subst eo41))
     (try simp only [Act.put, sP])
     go_cut [] (fun wc => ∃ (kq : Nat) (zy : Int) (zc : List Int) (zd : List Int) (u187001 : Value) (u187002 : Value), Aside0 (view_Slice.j3 kq a1 a2 a3 a0_0 l0_1 l0_2 zq zc zd = some (r1, r2, r3, r4)) ∧ Aside0 (kq ≤ za9) ∧ Aside0 (Kd.R (Kd.int .i64) 3 wc w.heap.size (fun k_ => some k_ ≠ (u187002 : Value).ownBlock) u187001 zc) ∧ Aside0 (Kd.R (Kd.int .i64) 3 wc w.heap.size (fun k_ => some k_ ≠ (u187001 : Value).ownBlock) u187002 zd) ∧ Aside0 (wc.heap[zu]? = some (.cells #[.int .i64 a0_0, (.slice (some ad178) l0_1.length c0_1), (.slice A0_2 l0_2.length c0_2)] 44 (0, 0))) ∧ Aside0 (wc.heap[zm]? = some (.cells #[.int .i64 zy, (.slice none 0 0), (.slice none 0 0)] 44 (0, 0))) ∧ Aside0 (wc.heap[zh]? = some (.cells #[.int .i64 zq, u187001, u187002] 44 (0, 0))) ∧ Aside0 (Below w.heap.size w wc))
     case first =>
      have H := HC32.out
      clear HC32
      by_cases c42 : a3 > 1
      rotate_left
      ·rw [if_neg c42] at H
       have z8 : decide (1 < a3) = false := decide_eq_false c42
       clear c42
       (first | rw [z8] | (simp only [i64_w, i32_w]; rw [z8]) | skip)
       have H' := aM H
       clear H
       go_wp2
       go_meet
       case rel => exact ⟨_, (0), (z4), (z3), (.slice zai z4.length zaj), (.slice za0 z3.length zak), H', ⟨by have := HJ7.out; have := zar.out; first | omega | exact Nat.le_refl _⟩, ⟨by (with_reducible repeat (first | apply rA | apply rN | apply rD)); exact F3 z5 zg (fun _ hk => hk.1)⟩, ⟨by (with_reducible repeat (first | apply rA | apply rN | apply rD)); exact F3 z6 zg (fun _ hk => hk.1)⟩, ⟨by refine B3 zo ?_; exact zf.out⟩, ⟨by refine B3 zi ?_; exact ze.out⟩, ⟨by exact P3 zg⟩, ⟨qB3 HB zl zp zx⟩⟩
      rw [if_pos c42] at H
      have z8 : decide (1 < a3) = true := decide_eq_true c42
      clear c42
      (first | rw [z8] | (simp only [i64_w, i32_w]; rw [z8]) | skip)
      have HC43 := aM H
      clear H
      go_upto_region 10 with (fail)
      go_cut [67] (fun v67 wc => ∃ (kq : Nat) (x67_42 : Bool), v67 = .bool x67_42 ∧ Aside0 (view_Slice.j2 kq a1 a2 a3 a4 (rd l0_1 a1) x67_42 a0_0 l0_1 l0_2 zq z4 z3 = some (r1, r2, r3, r4)) ∧ Aside0 (kq ≤ za9) ∧ Aside0 (Kd.R (Kd.int .i64) 3 wc w.heap.size (fun k_ => some k_ ≠ ((.slice za0 z3.length zak) : Value).ownBlock) (.slice zai z4.length zaj) z4) ∧ Aside0 (Kd.R (Kd.int .i64) 3 wc w.heap.size (fun k_ => some k_ ≠ ((.slice zai z4.length zaj) : Value).ownBlock) (.slice za0 z3.length zak) z3) ∧ Aside0 (wc.heap[zu]? = some (.cells #[.int .i64 a0_0, (.slice (some ad178) l0_1.length c0_1), (.slice A0_2 l0_2.length c0_2)] 44 (0, 0))) ∧ Aside0 (wc.heap[zm]? = some (.cells #[.int .i64 0, (.slice none 0 0), (.slice none 0 0)] 44 (0, 0))) ∧ Aside0 (wc.heap[zh]? = some (.cells #[.int .i64 zq, (.slice zai z4.length zaj), (.slice za0 z3.length zak)] 44 (0, 0))) ∧ Aside0 (Below w.heap.size w wc))
      case first =>
       have H := HC43.out
       clear HC43
       by_cases c44 : a4 = 0
       ·rw [if_pos c44] at H
        have zad : (a4 == 0) = true := beq_iff_eq.mpr c44
        have c44b1 : (a4 != 0) = false := bne_eq_false_iff_eq.mpr c44
        clear c44
        (first | rw [zad] | (simp only [i64_w, i32_w]; rw [zad]) | skip)
        have H' := aM H
        clear H
        go_wp2
        go_meet
        case rel => exact ⟨_, (true), (pF), H', ⟨by have := HJ7.out; have := zar.out; first | omega | exact Nat.le_refl _⟩, ⟨by (with_reducible repeat (first | apply rA | apply rN | apply rD)); exact F3 z5 zg (fun _ hk => hk.1)⟩, ⟨by (with_reducible repeat (first | apply rA | apply rN | apply rD)); exact F3 z6 zg (fun _ hk => hk.1)⟩, ⟨by refine B3 zo ?_; exact zf.out⟩, ⟨by refine B3 zi ?_; exact ze.out⟩, ⟨by exact P3 zg⟩, ⟨qB3 HB zl zp zx⟩⟩
       rw [if_neg c44] at H
       have zad : (a4 == 0) = false := beq_eq_false_iff_ne.mpr c44
       have c44b1 : (a4 != 0) = true := bne_iff_ne.mpr c44
       (first | rw [zad] | (simp only [i64_w, i32_w]; rw [zad]) | skip)
       by_cases c45 : a4 ≥ (rd l0_1 a1)
       ·rw [if_pos c45] at H
        have c45b0 : decide ((rd l0_1 a1) ≤ a4) = true := decide_eq_true c45
        clear c45
        have H' := aM H
        clear H
        go_wp2
        go_meet
        case rel => exact ⟨_, (true), (pF), H', ⟨by have := HJ7.out; have := zar.out; first | omega | exact Nat.le_refl _⟩, ⟨by (with_reducible repeat (first | apply rA | apply rN | apply rD)); exact F3 z5 zg (fun _ hk => hk.1)⟩, ⟨by (with_reducible repeat (first | apply rA | apply rN | apply rD)); exact F3 z6 zg (fun _ hk => hk.1)⟩, ⟨by refine B3 zo ?_; exact zf.out⟩, ⟨by refine B3 zi ?_; exact ze.out⟩, ⟨by exact P3 zg⟩, ⟨qB3 HB zl zp zx⟩⟩
       rw [if_neg c45] at H
       have c45b0 : decide ((rd l0_1 a1) ≤ a4) = false := decide_eq_false c45
       clear c45
       have H' := aM H
       clear H
       go_wp2
       go_meet
       case rel => exact ⟨_, (decide (a4 ≤ (wrap64 (-(rd l0_1 a1))))), (pF), H', ⟨by have := HJ7.out; have := zar.out; first | omega | exact Nat.le_refl _⟩, ⟨by (with_reducible repeat (first | apply rA | apply rN | apply rD)); exact F3 z5 zg (fun _ hk => hk.1)⟩, ⟨by (with_reducible repeat (first | apply rA | apply rN | apply rD)); exact F3 z6 zg (fun _ hk => hk.1)⟩, ⟨by refine B3 zo ?_; exact zf.out⟩, ⟨by refine B3 zi ?_; exact ze.out⟩, ⟨by exact P3 zg⟩, ⟨qB3 HB zl zp zx⟩⟩
      case rest =>
       clear HC43
       try clear c28
       try clear z8
       try clear hcz34_0 hcz34_1 hcz34_2 hcz39_0 hcz39_1 hcz39_2 hfz34_0 hfz34_1 hfz34_2 hfz39_0 hfz39_1 hfz39_2
       obtain ⟨kq, x67_42, rfl, HA, HJ42, zb, za, zf, ze, zg, HB⟩ := hcut
       cases kq with
       | zero => exact absurd HA.out (by simp [view_Slice.j2])
       | succ kj42 =>
        have H := HA.out
        clear HA
        simp only [view_Slice.j2] at H
        by_cases c46 : x67_42 = true
        ·subst c46
         rw [if_pos rfl] at H
         simp only [Option.some.injEq, Prod.mk.injEq] at H
         obtain ⟨rfl, rfl, rfl, rfl⟩ := H
         have hnb47 := zk.out
         have hnc47 := zj.out
         have hnb48 := zi.out
         have hnc48 := zs.out
         obtain ⟨hcz49_0, hcz49_1, hcz49_2, hfz49_0, hfz49_1, hfz49_2⟩ := blk3 ze.out
         go_wp2
         refine bodyPost_ret (results_ct rfl _ _ zm 44 #[.int .i64 0, .slice none 0 0, .slice none 0 0] (0, 0) _ rfl (by exact P3 ze) Try.underlying44 rfl (by kernel_rfl)) rfl ?_
         exact ⟨_, _, pE, pN, pN, qB3 HB zl zp zx⟩
        replace c46 := Bool.eq_false_iff.mpr c46
        subst c46
        rw [if_neg (show ¬ (false = true) by decide)] at H
        by_cases c50 : (wrap64 (a2 + (wrap64 ((wrap64 (a3 - 1)) * a4)))) < 0
        ·rw [if_pos c50] at H
         have c50b0 : decide ((wrap64 (a2 + (wrap64 ((wrap64 (a3 - 1)) * a4)))) < 0) = true := decide_eq_true c50
         clear c50
         simp only [Option.some.injEq, Prod.mk.injEq] at H
         obtain ⟨rfl, rfl, rfl, rfl⟩ := H
         have hnb51 := zk.out
         have hnc51 := zj.out
         have hnb52 := zi.out
         have hnc52 := zs.out
         obtain ⟨hcz53_0, hcz53_1, hcz53_2, hfz53_0, hfz53_1, hfz53_2⟩ := blk3 ze.out
         go_wp2
         refine bodyPost_ret (results_ct rfl _ _ zm 44 #[.int .i64 0, .slice none 0 0, .slice none 0 0] (0, 0) _ rfl (by exact P3 ze) Try.underlying44 rfl (by kernel_rfl)) rfl ?_
         exact ⟨_, _, pE, pN, pN, qB3 HB zl zp zx⟩
        rw [if_neg c50] at H
        have c50b0 : decide ((wrap64 (a2 + (wrap64 ((wrap64 (a3 - 1)) * a4)))) < 0) = false := decide_eq_false c50
        clear c50
        by_cases c54 : (wrap64 (a2 + (wrap64 ((wrap64 (a3 - 1)) * a4)))) ≥ (rd l0_1 a1)
        ·rw [if_pos c54] at H
         have c54b0 : decide ((rd l0_1 a1) ≤ (wrap64 (a2 + (wrap64 ((wrap64 (a3 - 1)) * a4))))) = true := decide_eq_true c54
         clear c54
         simp only [Option.some.injEq, Prod.mk.injEq] at H
         obtain ⟨rfl, rfl, rfl, rfl⟩ := H
         have hnb55 := zk.out
         have hnc55 := zj.out
         have hnb56 := zi.out
         have hnc56 := zs.out
         obtain ⟨hcz57_0, hcz57_1, hcz57_2, hfz57_0, hfz57_1, hfz57_2⟩ := blk3 ze.out
         go_wp2
         refine bodyPost_ret (results_ct rfl _ _ zm 44 #[.int .i64 0, .slice none 0 0, .slice none 0 0] (0, 0) _ rfl (by exact P3 ze) Try.underlying44 rfl (by kernel_rfl)) rfl ?_
         exact ⟨_, _, pE, pN, pN, qB3 HB zl zp zx⟩
        rw [if_neg c54] at H
        have c54b0 : decide ((rd l0_1 a1) ≤ (wrap64 (a2 + (wrap64 ((wrap64 (a3 - 1)) * a4))))) = false := decide_eq_false c54
        clear c54
        by_cases c58 : 0 ≤ a1
        rotate_left
        ·rw [if_neg c58] at H
         exact absurd H (by simp)
        rw [if_pos c58] at H
        have c58b0 : decide (0 ≤ a1) = true := decide_eq_true c58
        clear c58
        by_cases c59 : a1 < (l0_2.length : Int)
        rotate_left
        ·rw [if_neg c59] at H
         exact absurd H (by simp)
        rw [if_pos c59] at H
        have c59b0 : decide (a1 < (l0_2.length : Int)) = true := decide_eq_true c59
        clear c59
        by_cases c60 : a1 < (z3.length : Int)
        rotate_left
        ·rw [if_neg c60] at H
         exact absurd H (by simp)
        rw [if_pos c60] at H
        have c60b0 : decide (a1 < (z3.length : Int)) = true := decide_eq_true c60
        clear c60
        obtain ⟨zbb, zas⟩ : ∃ y_ : List Int, y_ = (z3.set (a1 : Int).toNat (wrap64 ((rd l0_2 a1) * a4))) := ⟨_, rfl⟩
        replace H : (view_Slice.j3 kj42 a1 a2 a3 a0_0 l0_1 l0_2 zq z4 zbb) = some (r1, r2, r3, r4) := pH zas H
        have Ny188 := aM zas
        clear zas
        have H' := aM H
        clear H
        try go_wp2
        replace zb := aM (Kd.R_drew zb.out)
        replace za := aM (Kd.R_drew za.out)
        replace zf := aM (blk_drew zf.out)
        replace ze := aM (blk_drew ze.out)
        replace zg := aM (blk_drew zg.out)
        replace HB := aM (below_drew1 HB.out)
        have p187 : 0 ≤ (a1 : Int) := of_decide_eq_true pD
        have q187 : a1 < (l0_2.length : Int) := of_decide_eq_true pD
        obtain ⟨ad187, e187, hx187_0⟩ := Kd.at_int z7.out a1 p187 q187
        have hw187_0 := hx187_0
        cases e187
        replace hx187_0 := (HB.out.cell (World.block_lt_of_cell? w _ hx187_0)).trans hx187_0
        replace p187 := eq_true p187
        replace q187 := eq_true q187
        have p61 : 0 ≤ (a1 : Int) := of_decide_eq_true pD
        have q61 : (a1 : Int) < ((z3.length : Int) : Int) := of_decide_eq_true pD
        obtain ⟨go61, co61, zbc, zbd, gl61, cl61, HG61⟩ := Kd.R_form za.out (by omega)
        (first | cases zbc | (injection zbc with ea_ en_ ec_; (first | subst ea_ | (injection ea_ with ea_; subst ea_)); subst ec_; clear en_))
        have GB61 := aM zbd
        have GG61 := aM HG61
        clear zbd gl61 HG61
        obtain ⟨hx61_0, hf61_0⟩ := Kd.R_celln 0 za.out (a1 : Int) p61 q61
        replace p61 := eq_true p61
        replace q61 := eq_true q61
        have HP63 := Kd.R_putn za.out (a1 : Int) (wrap64 ((rd l0_2 a1) * a4))
        rw [← Ny188.out] at HP63
        have HQ63 := aM HP63
        clear HP63
        refine start_ (n := 12) (S := fun w' => w'.cell? ⟨zh, 0, none⟩ = some (.int .i64 zq) ∧ w'.cell? ⟨zh, 1, none⟩ = some (.slice zai z4.length zaj) ∧ w'.cell? ⟨zh, 2, none⟩ = some (.slice (some ⟨go61, 0, none⟩) z3.length zak) ∧ w'.cell? ⟨zu, 0, none⟩ = some (.int .i64 a0_0) ∧ w'.cell? ⟨zu, 1, none⟩ = some (.slice (some ad178) l0_1.length c0_1) ∧ w'.cell? ⟨zu, 2, none⟩ = some (.slice (some ad187) l0_2.length c0_2) ∧ w'.cell? (ad187.add (a1).toNat) = some (.int .i64 (rd l0_2 a1))) (ds := [11]) (bm 12 0) (by kernel_rfl) rfl rfl ⟨(blk_cell zg.out 0).trans rfl, (blk_cell zg.out 1).trans rfl, (blk_cell zg.out 2).trans rfl, (blk_cell zf.out 0).trans rfl, (blk_cell zf.out 1).trans rfl, (blk_cell zf.out 2).trans rfl, ((HB.out.cell (World.block_lt_of_cell? w _ hw187_0)).trans hw187_0)⟩ (fun hHeld => ?_); refine with_tabW view_Slice.tab15 view_Slice.bits15 (fun HT_ HW_ => ?_)
        generalize wc.drew = w62 at zb za zf ze zg HB GG61 HQ63 hf61_0 hx187_0 hx61_0 hHeld ⊢
        refine pP (i := 0) (N := some 83) (bm 12 1) rfl rfl HT_.out ?_
        refine pP (i := 2) (N := some 85) (bm 12 5) rfl rfl HT_.out ?_
        refine pP (i := 3) (N := some 86) (bm 12 13) rfl rfl HT_.out ?_
        refine pP (i := 5) (N := some 88) (bm 12 45) rfl rfl HT_.out ?_
        refine pP (i := 8) (N := some 91) (bm 12 301) rfl rfl HT_.out ?_
        refine pT (i := 1) (N := some 84) (bm 12 303) rfl rfl HT_.out HW_.out hHeld (by rintro w' ⟨s0, s1, s2, s3, s4, s5, s6⟩; go_simp; with_reducible rfl) ?_
        refine pT (i := 4) (N := some 87) (bm 12 319) rfl rfl HT_.out HW_.out hHeld (by rintro w' ⟨s0, s1, s2, s3, s4, s5, s6⟩; go_simp; with_reducible rfl) ?_
        refine pP (i := 6) (N := some 89) (bm 12 383) rfl rfl HT_.out ?_
        refine pT (i := 7) (N := some 90) (bm 12 511) rfl rfl HT_.out HW_.out hHeld (by rintro w' ⟨s0, s1, s2, s3, s4, s5, s6⟩; go_simp; with_reducible rfl) ?_
        refine pP (i := 9) (N := some 92) (bm 12 1023) rfl rfl HT_.out ?_
        refine pP (i := 10) (N := some 93) (bm 12 2047) rfl rfl HT_.out ?_
        refine last_ (i := 11) (N := none) (bm 12 4095) rfl rfl (one_of HT_.out (by kernel_rfl)) (by decide) (fun K hK => ?_)
        refine skip_ (w1 := ?_) (by rfl) rfl ?_ ?_
        rotate_left
        ·go_simp
         rfl
        refine hK.out _ _ ?_
        clear hK K
        refine done_ (done_of HT_.out (by kernel_rfl)) ?_
        try go_wp2
        go_meet
        case rel => exact ⟨_, (0), (z4), (zbb), (.slice zai z4.length zaj), (.slice (some ⟨go61, 0, none⟩) z3.length zak), H', ⟨by have := HJ7.out; have := zar.out; have := HJ42.out; first | omega | exact Nat.le_refl _⟩, ⟨by (with_reducible repeat (first | apply rA | apply rN | apply rD)); exact Kd.R_mono (Kd.R_far (p := ⟨go61, (a1 : Int).toNat, none⟩) (Kd.R_mono zb.out (fun k_ hk => (⟨hk, fun e_ => hk (by rw [e_]; rfl)⟩ : _ ∧ k_ ≠ go61))) (fun _ hk => hk.2) (.int .i64 (wrap64 ((rd l0_2 a1) * a4)))) (fun _ hk => hk.1)⟩, ⟨pR HQ63.out⟩, ⟨by (with_reducible repeat (first | apply bN | apply bD | apply bA)); refine blk_far ?_ (by have h_ := Kd.R_ne za.out zf.out (by decide); intro e_; exact h_ (by rw [e_]; rfl)) _; (with_reducible repeat (first | apply bN | apply bD | apply bA)); exact zf.out⟩, ⟨by (with_reducible repeat (first | apply bN | apply bD | apply bA)); refine blk_far ?_ (by have h_ := Kd.R_ne za.out ze.out (by decide); intro e_; exact h_ (by rw [e_]; rfl)) _; (with_reducible repeat (first | apply bN | apply bD | apply bA)); exact ze.out⟩, ⟨by (with_reducible repeat (first | apply bN | apply bD | apply bA)); refine blk_far ?_ (by have h_ := Kd.R_ne za.out zg.out (by decide); intro e_; exact h_ (by rw [e_]; rfl)) _; (with_reducible repeat (first | apply bN | apply bD | apply bA)); exact zg.out⟩, ⟨qB4 HB GB61 zl zp zx⟩⟩
     case rest =>
      clear HC32
      obtain ⟨kq, zy, zc, zd, u187001, u187002, HA, HJ31, zb, za, zf, ze, zg, HB⟩ := hcut
      cases kq with
      | zero => exact absurd HA.out (by simp [view_Slice.j3])
      | succ kj31 =>
       have H := HA.out
       clear HA
       simp only [view_Slice.j3] at H
       by_cases c64 : a2 > 0
       rotate_left
       ·rw [if_neg c64] at H
        have c64b0 : decide (0 < a2) = false := decide_eq_false c64
        clear c64
        by_cases c98 : 0 ≤ a1
        rotate_left
        ·rw [if_neg c98] at H
         exact absurd H (by simp)
        rw [if_pos c98] at H
        have c98b0 : decide (0 ≤ a1) = true := decide_eq_true c98
        clear c98
        by_cases c99 : a1 < (zc.length : Int)
        rotate_left
        ·rw [if_neg c99] at H
         exact absurd H (by simp)
        rw [if_pos c99] at H
        have c99b0 : decide (a1 < (zc.length : Int)) = true := decide_eq_true c99
        clear c99
        obtain ⟨zaa, zat⟩ : ∃ y_ : List Int, y_ = (zc.set (a1 : Int).toNat a3) := ⟨_, rfl⟩
        replace H : (if a3 = 1 then (if a1 < (zd.length : Int) then (some (zq, zaa, (zd.set (a1 : Int).toNat 0), 0)) else (none)) else (some (zq, zaa, zd, 0))) = some (r1, r2, r3, r4) := pH zat H
        have za1 := aM zat
        clear zat
        by_cases c101 : a3 = 1
        rotate_left
        ·rw [if_neg c101] at H
         have c101b0 : (a3 == 1) = false := beq_eq_false_iff_ne.mpr c101
         have c101b1 : (a3 != 1) = true := bne_iff_ne.mpr c101
         simp only [Option.some.injEq, Prod.mk.injEq] at H
         obtain ⟨rfl, rfl, rfl, rfl⟩ := H
         have hnb115 := zv.out
         have hnc115 := zo.out
         have hnb116 := zs.out
         have hnc116 := zi.out
         obtain ⟨hcz117_0, hcz117_1, hcz117_2, hfz117_0, hfz117_1, hfz117_2⟩ := blk3 zg.out
         have p100 : 0 ≤ (a1 : Int) := of_decide_eq_true pD
         have q100 : (a1 : Int) < ((zc.length : Int) : Int) := of_decide_eq_true pD
         obtain ⟨go100, zz, zae, zaf, gl100, cl100, HG100⟩ := Kd.R_form zb.out (by omega)
         (first | cases zae | (injection zae with ea_ en_ ec_; (first | subst ea_ | (injection ea_ with ea_; subst ea_)); subst ec_; clear en_))
         have GB100 := aM zaf
         have GG100 := aM HG100
         clear zaf gl100 HG100
         obtain ⟨hx100_0, hf100_0⟩ := Kd.R_celln 0 zb.out (a1 : Int) p100 q100
         replace p100 := eq_true p100
         replace q100 := eq_true q100
         have HP118 := Kd.R_putg zb.out (a1 : Int) a3
         go_wp2_with (first | ((with_reducible refine gate_store (t := 3) (p := 111) rfl ?_); refine store_event (t := 3) (p := 111) (v := ?vo_w119) (w1 := (wc.setCell ⟨go100, (a1 : Int).toNat, none⟩ (.int .i64 a3))) ?hg ?ho ?hn ?hr ?_; (case ho => rfl); (case hg => rfl); (case hn => rfl); (case hr => first | (go_simp; done) | (go_simp; rfl)); intro za5 hw; have hg : wc.grownBy za5 (some go100) := (by rw [hw]; exact HP118.2); have hp_ : Kd.R (Kd.int .i64) 3 za5 w.heap.size (fun k_ => some k_ ≠ (u187002 : Value).ownBlock) (.slice (some ⟨go100, 0, none⟩) zc.length zz) zaa := (by rw [hw, za1.out]; exact HP118.1); clear HP118; replace za := aM (Kd.R_after (v := (.slice (some ⟨go100, 0, none⟩) zc.length zz)) (v1 := (.slice (some ⟨go100, 0, none⟩) zc.length zz)) (ok := (fun _ => True)) (by (with_reducible repeat (first | apply rA | apply rN | apply rD)); exact Kd.R_mono za.out (fun _ hk => ⟨trivial, hk⟩)) hg (.inl rfl)); replace zf := aM (blk_grown (g := zu) (pK zf.out) hg (Kd.R_ne zb.out zf.out (by decide))); replace ze := aM (blk_grown (g := zm) (pK ze.out) hg (Kd.R_ne zb.out ze.out (by decide))); replace zg := aM (blk_grown (g := zh) (pK zg.out) hg (Kd.R_ne zb.out zg.out (by decide))); replace zb := aM (hp_); replace HB := aM ((by rw [hw]; exact below_set (HB.out) GB100.out : Below w.heap.size w za5)); clear hg hw hp_; obtain ⟨hcz120_0, hcz120_1, hcz120_2, hfz120_0, hfz120_1, hfz120_2⟩ := blk3 zg.out; have hnb121 := zk.out; have hnc121 := zj.out; obtain ⟨hcz122_0, hcz122_1, hcz122_2, hfz122_0, hfz122_1, hfz122_2⟩ := blk3 ze.out; obtain ⟨Ao123, co123, eo123⟩ := Kd.R_slice za.out; subst eo123))
         refine bodyPost_ret (results_ct rfl _ _ zm 44 #[.int .i64 zq, .slice (some ⟨go100, 0, none⟩) zc.length zz, .slice Ao123 zd.length co123] (0, 0) _ rfl (by exact P3 ze) Try.underlying44 rfl (by kernel_rfl)) rfl ?_
         exact ⟨_, _, pE, by (with_reducible repeat (first | apply rA | apply rN | apply rD)); exact F3 zb ze (fun _ hk => hk.1), by (with_reducible repeat (first | apply rA | apply rN | apply rD)); exact F3 za ze (fun _ hk => hk.1.2), qB3 HB zl zp zx⟩
        rw [if_pos c101] at H
        have c101b0 : (a3 == 1) = true := beq_iff_eq.mpr c101
        have c101b1 : (a3 != 1) = false := bne_eq_false_iff_eq.mpr c101
        clear c101
        by_cases c102 : a1 < (zd.length : Int)
        rotate_left
        ·rw [if_neg c102] at H
         exact absurd H (by simp)
        rw [if_pos c102] at H
        have c102b0 : decide (a1 < (zd.length : Int)) = true := decide_eq_true c102
        clear c102
        obtain ⟨zbe, zau⟩ : ∃ y_ : List Int, y_ = (zd.set (a1 : Int).toNat 0) := ⟨_, rfl⟩
        replace H : (some (zq, zaa, zbe, 0)) = some (r1, r2, r3, r4) := pH zau H
        have Ny193 := aM zau
        clear zau
        simp only [Option.some.injEq, Prod.mk.injEq] at H
        obtain ⟨rfl, rfl, rfl, rfl⟩ := H
        have hnb104 := zv.out
        have hnc104 := zo.out
        have hnb105 := zs.out
        have hnc105 := zi.out
        obtain ⟨hcz106_0, hcz106_1, hcz106_2, hfz106_0, hfz106_1, hfz106_2⟩ := blk3 zg.out
        have p100 : 0 ≤ (a1 : Int) := of_decide_eq_true pD
        have q100 : (a1 : Int) < ((zc.length : Int) : Int) := of_decide_eq_true pD
        obtain ⟨go100, zz, zae, zaf, gl100, cl100, HG100⟩ := Kd.R_form zb.out (by omega)
        (first | cases zae | (injection zae with ea_ en_ ec_; (first | subst ea_ | (injection ea_ with ea_; subst ea_)); subst ec_; clear en_))
        have GB100 := aM zaf
        have GG100 := aM HG100
        clear zaf gl100 HG100
        obtain ⟨hx100_0, hf100_0⟩ := Kd.R_celln 0 zb.out (a1 : Int) p100 q100
        replace p100 := eq_true p100
        replace q100 := eq_true q100
        have HP107 := Kd.R_putg zb.out (a1 : Int) a3
        go_wp2_with (first | ((with_reducible refine gate_store (t := 3) (p := 111) rfl ?_); refine store_event (t := 3) (p := 111) (v := ?vo_w108) (w1 := (wc.setCell ⟨go100, (a1 : Int).toNat, none⟩ (.int .i64 a3))) ?hg ?ho ?hn ?hr ?_; (case ho => rfl); (case hg => rfl); (case hn => rfl); (case hr => first | (go_simp; done) | (go_simp; rfl)); intro zav hw; have hg : wc.grownBy zav (some go100) := (by rw [hw]; exact HP107.2); have hp_ : Kd.R (Kd.int .i64) 3 zav w.heap.size (fun k_ => some k_ ≠ (u187002 : Value).ownBlock) (.slice (some ⟨go100, 0, none⟩) zc.length zz) zaa := (by rw [hw, za1.out]; exact HP107.1); clear HP107; replace za := aM (Kd.R_after (v := (.slice (some ⟨go100, 0, none⟩) zc.length zz)) (v1 := (.slice (some ⟨go100, 0, none⟩) zc.length zz)) (ok := (fun _ => True)) (by (with_reducible repeat (first | apply rA | apply rN | apply rD)); exact Kd.R_mono za.out (fun _ hk => ⟨trivial, hk⟩)) hg (.inl rfl)); replace zf := aM (blk_grown (g := zu) (pK zf.out) hg (Kd.R_ne zb.out zf.out (by decide))); replace ze := aM (blk_grown (g := zm) (pK ze.out) hg (Kd.R_ne zb.out ze.out (by decide))); replace zg := aM (blk_grown (g := zh) (pK zg.out) hg (Kd.R_ne zb.out zg.out (by decide))); replace zb := aM (hp_); replace HB := aM ((by rw [hw]; exact below_set (HB.out) GB100.out : Below w.heap.size w zav)); clear hg hw hp_; obtain ⟨hcz109_0, hcz109_1, hcz109_2, hfz109_0, hfz109_1, hfz109_2⟩ := blk3 zg.out; have p103 : 0 ≤ (a1 : Int) := of_decide_eq_true pD; have q103 : (a1 : Int) < ((zd.length : Int) : Int) := of_decide_eq_true pD; obtain ⟨go103, zah, za2, za3, gl103, cl103, HG103⟩ := Kd.R_form za.out (by omega); (first | cases za2 | (injection za2 with ea_ en_ ec_; (first | subst ea_ | (injection ea_ with ea_; subst ea_)); subst ec_; clear en_)); have GB103 := aM za3; have GG103 := aM HG103; clear za3 gl103 HG103; obtain ⟨hx103_0, hf103_0⟩ := Kd.R_celln 0 za.out (a1 : Int) p103 q103; replace p103 := eq_true p103; replace q103 := eq_true q103; have n_ := aM (Kd.R_mono (ok' := (fun k_ => some k_ ≠ (.slice (some ⟨go100, 0, none⟩) zc.length zz : Value).ownBlock)) za.out (fun k_ hk => hk.2)); clear za; have za := n_; clear n_; obtain ⟨hy110_, hz110_⟩ := Kd.R_celln 0 za.out (a1 : Int) (of_decide_eq_true pD) (of_decide_eq_true pD); have HP110 := Kd.R_putg za.out (a1 : Int) 0) | ((with_reducible refine gate_store (t := 3) (p := 117) rfl ?_); refine store_event (t := 3) (p := 117) (v := ?vo_w111) (w1 := (zav.setCell ⟨go103, (a1 : Int).toNat, none⟩ (.int .i64 0))) ?hg ?ho ?hn ?hr ?_; (case ho => rfl); (case hg => rfl); (case hn => rfl); (case hr => first | (go_simp; done) | (go_simp; rfl)); intro za6 hw; have hg : zav.grownBy za6 (some go103) := (by rw [hw]; exact HP110.2); have hp_ : Kd.R (Kd.int .i64) 3 za6 w.heap.size (fun k_ => some k_ ≠ (.slice (some ⟨go100, 0, none⟩) zc.length zz : Value).ownBlock) (.slice (some ⟨go103, 0, none⟩) zd.length zah) zbe := (by rw [hw, Ny193.out]; exact HP110.1); clear HP110; replace zb := aM (Kd.R_after (v := (.slice (some ⟨go103, 0, none⟩) zd.length zah)) (v1 := (.slice (some ⟨go103, 0, none⟩) zd.length zah)) (ok := (fun _ => True)) (by (with_reducible repeat (first | apply rA | apply rN | apply rD)); exact Kd.R_mono zb.out (fun _ hk => ⟨trivial, hk⟩)) hg (.inl rfl)); replace zf := aM (blk_grown (g := zu) (pK zf.out) hg (Kd.R_ne za.out zf.out (by decide))); replace ze := aM (blk_grown (g := zm) (pK ze.out) hg (Kd.R_ne za.out ze.out (by decide))); replace zg := aM (blk_grown (g := zh) (pK zg.out) hg (Kd.R_ne za.out zg.out (by decide))); replace za := aM (hp_); replace HB := aM ((by rw [hw]; exact below_set (HB.out) GB103.out : Below w.heap.size w za6)); clear hg hw hp_; obtain ⟨hcz112_0, hcz112_1, hcz112_2, hfz112_0, hfz112_1, hfz112_2⟩ := blk3 zg.out; have hnb113 := zk.out; have hnc113 := zj.out; obtain ⟨hcz114_0, hcz114_1, hcz114_2, hfz114_0, hfz114_1, hfz114_2⟩ := blk3 ze.out))
        refine bodyPost_ret (results_ct rfl _ _ zm 44 #[.int .i64 zq, .slice (some ⟨go100, 0, none⟩) zc.length zz, .slice (some ⟨go103, 0, none⟩) zd.length zah] (0, 0) _ rfl (by exact P3 ze) Try.underlying44 rfl (by kernel_rfl)) rfl ?_
        exact ⟨_, _, pE, by (with_reducible repeat (first | apply rA | apply rN | apply rD)); exact F3 zb ze (fun _ hk => hk.1.2), by (with_reducible repeat (first | apply rA | apply rN | apply rD)); exact F3 za ze (fun _ hk => hk.1), qB3 HB zl zp zx⟩
       rw [if_pos c64] at H
       have c64b0 : decide (0 < a2) = true := decide_eq_true c64
       clear c64
       by_cases c65 : 0 ≤ a1
       rotate_left
       ·rw [if_neg c65] at H
        exact absurd H (by simp)
       rw [if_pos c65] at H
       have c65b0 : decide (0 ≤ a1) = true := decide_eq_true c65
       clear c65
       by_cases c66 : a1 < (l0_2.length : Int)
       rotate_left
       ·rw [if_neg c66] at H
        exact absurd H (by simp)
       rw [if_pos c66] at H
       have c66b0 : decide (a1 < (l0_2.length : Int)) = true := decide_eq_true c66
       clear c66
       by_cases c67 : a1 < (zc.length : Int)
       rotate_left
       ·rw [if_neg c67] at H
        exact absurd H (by simp)
       rw [if_pos c67] at H
       have c67b0 : decide (a1 < (zc.length : Int)) = true := decide_eq_true c67
       clear c67
       obtain ⟨z9, zaw⟩ : ∃ y_ : List Int, y_ = (zc.set (a1 : Int).toNat a3) := ⟨_, rfl⟩
       replace H : (if a3 = 1 then (if a1 < (zd.length : Int) then (some (wrap64 (zq + (wrap64 (a2 * (rd l0_2 a1)))), z9, (zd.set (a1 : Int).toNat 0), 0)) else (none)) else (some (wrap64 (zq + (wrap64 (a2 * (rd l0_2 a1)))), z9, zd, 0))) = some (r1, r2, r3, r4) := pH zaw H
       have za4 := aM zaw
       clear zaw
       by_cases c69 : a3 = 1
       rotate_left
       ·rw [if_neg c69] at H
        have c69b0 : (a3 == 1) = false := beq_eq_false_iff_ne.mpr c69
        have c69b1 : (a3 != 1) = true := bne_iff_ne.mpr c69
        simp only [Option.some.injEq, Prod.mk.injEq] at H
        obtain ⟨rfl, rfl, rfl, rfl⟩ := H
        try go_wp2
        replace zb := aM (Kd.R_drew zb.out)
        replace za := aM (Kd.R_drew za.out)
        replace zf := aM (blk_drew zf.out)
        replace ze := aM (blk_drew ze.out)
        replace zg := aM (blk_drew zg.out)
        replace HB := aM (below_drew1 HB.out)
        have p189 : 0 ≤ (a1 : Int) := of_decide_eq_true pD
        have q189 : a1 < (l0_2.length : Int) := of_decide_eq_true pD
        obtain ⟨ad189, e189, hx189_0⟩ := Kd.at_int z7.out a1 p189 q189
        have hw189_0 := hx189_0
        cases e189
        replace hx189_0 := (HB.out.cell (World.block_lt_of_cell? w _ hx189_0)).trans hx189_0
        replace p189 := eq_true p189
        replace q189 := eq_true q189
        refine start_ (n := 12) (S := fun w' => w'.cell? ⟨zh, 0, none⟩ = some (.int .i64 zq) ∧ w'.cell? ⟨zh, 1, none⟩ = some (u187001) ∧ w'.cell? ⟨zh, 2, none⟩ = some (u187002) ∧ w'.cell? ⟨zu, 0, none⟩ = some (.int .i64 a0_0) ∧ w'.cell? ⟨zu, 1, none⟩ = some (.slice (some ad178) l0_1.length c0_1) ∧ w'.cell? ⟨zu, 2, none⟩ = some (.slice (some ad189) l0_2.length c0_2) ∧ w'.cell? (ad189.add (a1).toNat) = some (.int .i64 (rd l0_2 a1))) (ds := [11]) (bm 12 0) (by kernel_rfl) rfl rfl ⟨(blk_cell zg.out 0).trans rfl, (blk_cell zg.out 1).trans rfl, (blk_cell zg.out 2).trans rfl, (blk_cell zf.out 0).trans rfl, (blk_cell zf.out 1).trans rfl, (blk_cell zf.out 2).trans rfl, ((HB.out.cell (World.block_lt_of_cell? w _ hw189_0)).trans hw189_0)⟩ (fun hHeld => ?_); refine with_tabW view_Slice.tab17 view_Slice.bits17 (fun HT_ HW_ => ?_)
        generalize wc.drew = w86 at zb za zf ze zg HB hx189_0 hHeld ⊢
        refine pP (i := 0) (N := some 96) (bm 12 1) rfl rfl HT_.out ?_
        refine pP (i := 2) (N := some 98) (bm 12 5) rfl rfl HT_.out ?_
        refine pP (i := 3) (N := some 99) (bm 12 13) rfl rfl HT_.out ?_
        refine pP (i := 5) (N := some 101) (bm 12 45) rfl rfl HT_.out ?_
        refine pT (i := 1) (N := some 97) (bm 12 47) rfl rfl HT_.out HW_.out hHeld (by rintro w' ⟨s0, s1, s2, s3, s4, s5, s6⟩; go_simp; with_reducible rfl) ?_
        refine pT (i := 4) (N := some 100) (bm 12 63) rfl rfl HT_.out HW_.out hHeld (by rintro w' ⟨s0, s1, s2, s3, s4, s5, s6⟩; go_simp; with_reducible rfl) ?_
        refine pP (i := 6) (N := some 102) (bm 12 127) rfl rfl HT_.out ?_
        refine pT (i := 7) (N := some 103) (bm 12 255) rfl rfl HT_.out HW_.out hHeld (by rintro w' ⟨s0, s1, s2, s3, s4, s5, s6⟩; go_simp; with_reducible rfl) ?_
        refine pP (i := 8) (N := some 104) (bm 12 511) rfl rfl HT_.out ?_
        refine pP (i := 9) (N := some 105) (bm 12 1023) rfl rfl HT_.out ?_
        refine pP (i := 10) (N := some 106) (bm 12 2047) rfl rfl HT_.out ?_
        refine last_ (i := 11) (N := none) (bm 12 4095) rfl rfl (one_of HT_.out (by kernel_rfl)) (by decide) (fun K hK => ?_)
        have hs87 : w86.cell? ⟨zh, 0, none⟩ = some (.int .i64 zq) := (blk_cell zg.out 0).trans rfl
        have hfs87 := blk_frozen zg.out 0
        have hns87_0 := zo.out
        have hns87_1 := zi.out
        have hms87_0 := zv.out
        have hms87_1 := zs.out
        refine skip_ (w1 := ?_) (by rfl) rfl ?_ ?_
        rotate_left
        ·go_simp
         rfl
        refine hK.out _ _ ?_
        clear hK K
        refine done_ (done_of HT_.out (by kernel_rfl)) ?_
        have n0_ : Aside0 (Kd.R (Kd.int .i64) 3 (w86.setCell ⟨zh, 0, none⟩ (.int .i64 (wrap64 (zq + (wrap64 (a2 * (rd l0_2 a1))))))) w.heap.size (fun k_ => some k_ ≠ (u187002 : Value).ownBlock) u187001 zc) := ⟨by (with_reducible repeat (first | apply rA | apply rN | apply rD)); exact Kd.R_mono (Kd.R_far (p := ⟨zh, 0, none⟩) (Kd.R_types zb.out zg.out (by decide)) (fun _ hk => hk.2) (.int .i64 (wrap64 (zq + (wrap64 (a2 * (rd l0_2 a1))))))) (fun _ hk => hk.1)⟩
        have n1_ : Aside0 (Kd.R (Kd.int .i64) 3 (w86.setCell ⟨zh, 0, none⟩ (.int .i64 (wrap64 (zq + (wrap64 (a2 * (rd l0_2 a1))))))) w.heap.size (fun k_ => some k_ ≠ (u187001 : Value).ownBlock) u187002 zd) := ⟨by (with_reducible repeat (first | apply rA | apply rN | apply rD)); exact Kd.R_mono (Kd.R_far (p := ⟨zh, 0, none⟩) (Kd.R_types za.out zg.out (by decide)) (fun _ hk => hk.2) (.int .i64 (wrap64 (zq + (wrap64 (a2 * (rd l0_2 a1))))))) (fun _ hk => hk.1)⟩
        have n2_ : Aside0 ((w86.setCell ⟨zh, 0, none⟩ (.int .i64 (wrap64 (zq + (wrap64 (a2 * (rd l0_2 a1))))))).heap[zu]? = some (.cells #[.int .i64 a0_0, .slice (some ad178) l0_1.length c0_1, .slice (some ad189) l0_2.length c0_2] 44 (0, 0))) := ⟨by (with_reducible repeat (first | apply bN | apply bD | apply bA)); refine blk_far ?_ zo.out _; (with_reducible repeat (first | apply bN | apply bD | apply bA)); exact zf.out⟩
        have n3_ : Aside0 ((w86.setCell ⟨zh, 0, none⟩ (.int .i64 (wrap64 (zq + (wrap64 (a2 * (rd l0_2 a1))))))).heap[zm]? = some (.cells #[.int .i64 zy, .slice none 0 0, .slice none 0 0] 44 (0, 0))) := ⟨by (with_reducible repeat (first | apply bN | apply bD | apply bA)); refine blk_far ?_ zi.out _; (with_reducible repeat (first | apply bN | apply bD | apply bA)); exact ze.out⟩
        have n4_ : Aside0 ((w86.setCell ⟨zh, 0, none⟩ (.int .i64 (wrap64 (zq + (wrap64 (a2 * (rd l0_2 a1))))))).heap[zh]? = some (.cells #[.int .i64 (wrap64 (zq + (wrap64 (a2 * (rd l0_2 a1))))), u187001, u187002] 44 (0, 0))) := ⟨by (with_reducible repeat (first | apply bN | apply bD | apply bA)); refine blk_put (cs := #[.int .i64 zq, u187001, u187002]) ?_ 0 _ rfl; (with_reducible repeat (first | apply bN | apply bD | apply bA)); exact zg.out⟩
        have n5_ : Aside0 (Below w.heap.size w (w86.setCell ⟨zh, 0, none⟩ (.int .i64 (wrap64 (zq + (wrap64 (a2 * (rd l0_2 a1)))))))) := ⟨qB3 HB zl zp zx⟩
        (try clear zb)
        (try clear za)
        (try clear zf)
        (try clear ze)
        (try clear zg)
        (try clear HB)
        generalize (w86.setCell ⟨zh, 0, none⟩ (.int .i64 (wrap64 (zq + (wrap64 (a2 * (rd l0_2 a1))))))) = w88 at n0_ n1_ n2_ n3_ n4_ n5_ ⊢
        have zb := n0_
        have za := n1_
        have zf := n2_
        have ze := n3_
        have zg := n4_
        have HB := n5_
        clear n0_ n1_ n2_ n3_ n4_ n5_
        have hnb89 := zv.out
        have hnc89 := zo.out
        have hnb90 := zs.out
        have hnc90 := zi.out
        obtain ⟨hcz91_0, hcz91_1, hcz91_2, hfz91_0, hfz91_1, hfz91_2⟩ := blk3 zg.out
        have p68 : 0 ≤ (a1 : Int) := of_decide_eq_true pD
        have q68 : (a1 : Int) < ((zc.length : Int) : Int) := of_decide_eq_true pD
        obtain ⟨go68, z2, zax, zay, gl68, cl68, HG68⟩ := Kd.R_form zb.out (by omega)
        (first | cases zax | (injection zax with ea_ en_ ec_; (first | subst ea_ | (injection ea_ with ea_; subst ea_)); subst ec_; clear en_))
        have GB68 := aM zay
        have GG68 := aM HG68
        clear zay gl68 HG68
        obtain ⟨hx68_0, hf68_0⟩ := Kd.R_celln 0 zb.out (a1 : Int) p68 q68
        replace p68 := eq_true p68
        replace q68 := eq_true q68
        obtain ⟨hy92_, hz92_⟩ := Kd.R_celln 0 zb.out (a1 : Int) (of_decide_eq_true pD) (of_decide_eq_true pD)
        have HP92 := Kd.R_putg zb.out (a1 : Int) a3
        try go_wp2_with (first | ((with_reducible refine gate_store (t := 3) (p := 111) rfl ?_); refine store_event (t := 3) (p := 111) (v := ?vo_w93) (w1 := (w88.setCell ⟨go68, (a1 : Int).toNat, none⟩ (.int .i64 a3))) ?hg ?ho ?hn ?hr ?_; (case ho => rfl); (case hg => rfl); (case hn => rfl); (case hr => first | (go_simp; done) | (go_simp; rfl)); intro w93 hw; have hg : w88.grownBy w93 (some go68) := (by rw [hw]; exact HP92.2); have hp_ : Kd.R (Kd.int .i64) 3 w93 w.heap.size (fun k_ => some k_ ≠ (u187002 : Value).ownBlock) (.slice (some ⟨go68, 0, none⟩) zc.length z2) z9 := (by rw [hw, za4.out]; exact HP92.1); clear HP92; replace za := aM (Kd.R_after (v := (.slice (some ⟨go68, 0, none⟩) zc.length z2)) (v1 := (.slice (some ⟨go68, 0, none⟩) zc.length z2)) (ok := (fun _ => True)) (by (with_reducible repeat (first | apply rA | apply rN | apply rD)); exact Kd.R_mono za.out (fun _ hk => ⟨trivial, hk⟩)) hg (.inl rfl)); replace zf := aM (blk_grown (g := zu) (pK zf.out) hg (Kd.R_ne zb.out zf.out (by decide))); replace ze := aM (blk_grown (g := zm) (pK ze.out) hg (Kd.R_ne zb.out ze.out (by decide))); replace zg := aM (blk_grown (g := zh) (pK zg.out) hg (Kd.R_ne zb.out zg.out (by decide))); replace zb := aM (hp_); replace HB := aM ((by rw [hw]; exact below_set (HB.out) GB68.out : Below w.heap.size w w93)); clear hg hw hp_; obtain ⟨hcz94_0, hcz94_1, hcz94_2, hfz94_0, hfz94_1, hfz94_2⟩ := blk3 zg.out; have hnb95 := zk.out; have hnc95 := zj.out; obtain ⟨hcz96_0, hcz96_1, hcz96_2, hfz96_0, hfz96_1, hfz96_2⟩ := blk3 ze.out; obtain ⟨za7, za8, eo97⟩ := Kd.R_slice za.out; subst eo97))
        refine bodyPost_ret (results_ct rfl _ _ zm 44 #[.int .i64 (wrap64 (zq + (wrap64 (a2 * (rd l0_2 a1))))), .slice (some ⟨go68, 0, none⟩) zc.length z2, .slice za7 zd.length za8] (0, 0) _ rfl (by exact P3 ze) Try.underlying44 rfl (by kernel_rfl)) rfl ?_
        exact ⟨_, _, pE, by (with_reducible repeat (first | apply rA | apply rN | apply rD)); exact Kd.R_mono (Kd.R_far (p := ⟨zm, 2, none⟩) (Kd.R_far (p := ⟨zm, 1, none⟩) (Kd.R_far (p := ⟨zm, 0, none⟩) (Kd.R_types zb.out ze.out (by decide)) (fun _ hk => hk.2) (.int .i64 (wrap64 (zq + (wrap64 (a2 * (rd l0_2 a1))))))) (fun _ hk => hk.2) (.slice (some ⟨go68, 0, none⟩) zc.length z2)) (fun _ hk => hk.2) (.slice za7 zd.length za8)) (fun _ hk => hk.1), by (with_reducible repeat (first | apply rA | apply rN | apply rD)); exact Kd.R_mono (Kd.R_far (p := ⟨zm, 2, none⟩) (Kd.R_far (p := ⟨zm, 1, none⟩) (Kd.R_far (p := ⟨zm, 0, none⟩) (Kd.R_types za.out ze.out (by decide)) (fun _ hk => hk.2) (.int .i64 (wrap64 (zq + (wrap64 (a2 * (rd l0_2 a1))))))) (fun _ hk => hk.2) (.slice (some ⟨go68, 0, none⟩) zc.length z2)) (fun _ hk => hk.2) (.slice za7 zd.length za8)) (fun _ hk => hk.1.2), qB3 HB zl zp zx⟩
       rw [if_pos c69] at H
       have c69b0 : (a3 == 1) = true := beq_iff_eq.mpr c69
       have c69b1 : (a3 != 1) = false := bne_eq_false_iff_eq.mpr c69
       clear c69
       by_cases c70 : a1 < (zd.length : Int)
       rotate_left
       ·rw [if_neg c70] at H
        exact absurd H (by simp)
       rw [if_pos c70] at H
       have c70b0 : decide (a1 < (zd.length : Int)) = true := decide_eq_true c70
       clear c70
       obtain ⟨zbf, zaz⟩ : ∃ y_ : List Int, y_ = (zd.set (a1 : Int).toNat 0) := ⟨_, rfl⟩
       replace H : (some (wrap64 (zq + (wrap64 (a2 * (rd l0_2 a1)))), z9, zbf, 0)) = some (r1, r2, r3, r4) := pH zaz H
       have Ny191 := aM zaz
       clear zaz
       simp only [Option.some.injEq, Prod.mk.injEq] at H
       obtain ⟨rfl, rfl, rfl, rfl⟩ := H
       try go_wp2
       replace zb := aM (Kd.R_drew zb.out)
       replace za := aM (Kd.R_drew za.out)
       replace zf := aM (blk_drew zf.out)
       replace ze := aM (blk_drew ze.out)
       replace zg := aM (blk_drew zg.out)
       replace HB := aM (below_drew1 HB.out)
       have p189 : 0 ≤ (a1 : Int) := of_decide_eq_true pD
       have q189 : a1 < (l0_2.length : Int) := of_decide_eq_true pD
       obtain ⟨ad189, e189, hx189_0⟩ := Kd.at_int z7.out a1 p189 q189
       have hw189_0 := hx189_0
       cases e189
       replace hx189_0 := (HB.out.cell (World.block_lt_of_cell? w _ hx189_0)).trans hx189_0
       replace p189 := eq_true p189
       replace q189 := eq_true q189
       refine start_ (n := 12) (S := fun w' => w'.cell? ⟨zh, 0, none⟩ = some (.int .i64 zq) ∧ w'.cell? ⟨zh, 1, none⟩ = some (u187001) ∧ w'.cell? ⟨zh, 2, none⟩ = some (u187002) ∧ w'.cell? ⟨zu, 0, none⟩ = some (.int .i64 a0_0) ∧ w'.cell? ⟨zu, 1, none⟩ = some (.slice (some ad178) l0_1.length c0_1) ∧ w'.cell? ⟨zu, 2, none⟩ = some (.slice (some ad189) l0_2.length c0_2) ∧ w'.cell? (ad189.add (a1).toNat) = some (.int .i64 (rd l0_2 a1))) (ds := [11]) (bm 12 0) (by kernel_rfl) rfl rfl ⟨(blk_cell zg.out 0).trans rfl, (blk_cell zg.out 1).trans rfl, (blk_cell zg.out 2).trans rfl, (blk_cell zf.out 0).trans rfl, (blk_cell zf.out 1).trans rfl, (blk_cell zf.out 2).trans rfl, ((HB.out.cell (World.block_lt_of_cell? w _ hw189_0)).trans hw189_0)⟩ (fun hHeld => ?_); refine with_tabW view_Slice.tab17 view_Slice.bits17 (fun HT_ HW_ => ?_)
       generalize wc.drew = w72 at zb za zf ze zg HB hx189_0 hHeld ⊢
       refine pP (i := 0) (N := some 96) (bm 12 1) rfl rfl HT_.out ?_
       refine pP (i := 2) (N := some 98) (bm 12 5) rfl rfl HT_.out ?_
       refine pP (i := 3) (N := some 99) (bm 12 13) rfl rfl HT_.out ?_
       refine pP (i := 5) (N := some 101) (bm 12 45) rfl rfl HT_.out ?_
       refine pT (i := 1) (N := some 97) (bm 12 47) rfl rfl HT_.out HW_.out hHeld (by rintro w' ⟨s0, s1, s2, s3, s4, s5, s6⟩; go_simp; with_reducible rfl) ?_
       refine pT (i := 4) (N := some 100) (bm 12 63) rfl rfl HT_.out HW_.out hHeld (by rintro w' ⟨s0, s1, s2, s3, s4, s5, s6⟩; go_simp; with_reducible rfl) ?_
       refine pP (i := 6) (N := some 102) (bm 12 127) rfl rfl HT_.out ?_
       refine pT (i := 7) (N := some 103) (bm 12 255) rfl rfl HT_.out HW_.out hHeld (by rintro w' ⟨s0, s1, s2, s3, s4, s5, s6⟩; go_simp; with_reducible rfl) ?_
       refine pP (i := 8) (N := some 104) (bm 12 511) rfl rfl HT_.out ?_
       refine pP (i := 9) (N := some 105) (bm 12 1023) rfl rfl HT_.out ?_
       refine pP (i := 10) (N := some 106) (bm 12 2047) rfl rfl HT_.out ?_
       refine last_ (i := 11) (N := none) (bm 12 4095) rfl rfl (one_of HT_.out (by kernel_rfl)) (by decide) (fun K hK => ?_)
       have hs73 : w72.cell? ⟨zh, 0, none⟩ = some (.int .i64 zq) := (blk_cell zg.out 0).trans rfl
       have hfs73 := blk_frozen zg.out 0
       have hns73_0 := zo.out
       have hns73_1 := zi.out
       have hms73_0 := zv.out
       have hms73_1 := zs.out
       refine skip_ (w1 := ?_) (by rfl) rfl ?_ ?_
       rotate_left
       ·go_simp
        rfl
       refine hK.out _ _ ?_
       clear hK K
       refine done_ (done_of HT_.out (by kernel_rfl)) ?_
       have n0_ : Aside0 (Kd.R (Kd.int .i64) 3 (w72.setCell ⟨zh, 0, none⟩ (.int .i64 (wrap64 (zq + (wrap64 (a2 * (rd l0_2 a1))))))) w.heap.size (fun k_ => some k_ ≠ (u187002 : Value).ownBlock) u187001 zc) := ⟨by (with_reducible repeat (first | apply rA | apply rN | apply rD)); exact Kd.R_mono (Kd.R_far (p := ⟨zh, 0, none⟩) (Kd.R_types zb.out zg.out (by decide)) (fun _ hk => hk.2) (.int .i64 (wrap64 (zq + (wrap64 (a2 * (rd l0_2 a1))))))) (fun _ hk => hk.1)⟩
       have n1_ : Aside0 (Kd.R (Kd.int .i64) 3 (w72.setCell ⟨zh, 0, none⟩ (.int .i64 (wrap64 (zq + (wrap64 (a2 * (rd l0_2 a1))))))) w.heap.size (fun k_ => some k_ ≠ (u187001 : Value).ownBlock) u187002 zd) := ⟨by (with_reducible repeat (first | apply rA | apply rN | apply rD)); exact Kd.R_mono (Kd.R_far (p := ⟨zh, 0, none⟩) (Kd.R_types za.out zg.out (by decide)) (fun _ hk => hk.2) (.int .i64 (wrap64 (zq + (wrap64 (a2 * (rd l0_2 a1))))))) (fun _ hk => hk.1)⟩
       have n2_ : Aside0 ((w72.setCell ⟨zh, 0, none⟩ (.int .i64 (wrap64 (zq + (wrap64 (a2 * (rd l0_2 a1))))))).heap[zu]? = some (.cells #[.int .i64 a0_0, .slice (some ad178) l0_1.length c0_1, .slice (some ad189) l0_2.length c0_2] 44 (0, 0))) := ⟨by (with_reducible repeat (first | apply bN | apply bD | apply bA)); refine blk_far ?_ zo.out _; (with_reducible repeat (first | apply bN | apply bD | apply bA)); exact zf.out⟩
       have n3_ : Aside0 ((w72.setCell ⟨zh, 0, none⟩ (.int .i64 (wrap64 (zq + (wrap64 (a2 * (rd l0_2 a1))))))).heap[zm]? = some (.cells #[.int .i64 zy, .slice none 0 0, .slice none 0 0] 44 (0, 0))) := ⟨by (with_reducible repeat (first | apply bN | apply bD | apply bA)); refine blk_far ?_ zi.out _; (with_reducible repeat (first | apply bN | apply bD | apply bA)); exact ze.out⟩
       have n4_ : Aside0 ((w72.setCell ⟨zh, 0, none⟩ (.int .i64 (wrap64 (zq + (wrap64 (a2 * (rd l0_2 a1))))))).heap[zh]? = some (.cells #[.int .i64 (wrap64 (zq + (wrap64 (a2 * (rd l0_2 a1))))), u187001, u187002] 44 (0, 0))) := ⟨by (with_reducible repeat (first | apply bN | apply bD | apply bA)); refine blk_put (cs := #[.int .i64 zq, u187001, u187002]) ?_ 0 _ rfl; (with_reducible repeat (first | apply bN | apply bD | apply bA)); exact zg.out⟩
       have n5_ : Aside0 (Below w.heap.size w (w72.setCell ⟨zh, 0, none⟩ (.int .i64 (wrap64 (zq + (wrap64 (a2 * (rd l0_2 a1)))))))) := ⟨qB3 HB zl zp zx⟩
       (try clear zb)
       (try clear za)
       (try clear zf)
       (try clear ze)
       (try clear zg)
       (try clear HB)
       generalize (w72.setCell ⟨zh, 0, none⟩ (.int .i64 (wrap64 (zq + (wrap64 (a2 * (rd l0_2 a1))))))) = w74 at n0_ n1_ n2_ n3_ n4_ n5_ ⊢
       have zb := n0_
       have za := n1_
       have zf := n2_
       have ze := n3_
       have zg := n4_
       have HB := n5_
       clear n0_ n1_ n2_ n3_ n4_ n5_
       have hnb75 := zv.out
       have hnc75 := zo.out
       have hnb76 := zs.out
       have hnc76 := zi.out
       obtain ⟨hcz77_0, hcz77_1, hcz77_2, hfz77_0, hfz77_1, hfz77_2⟩ := blk3 zg.out
       have p68 : 0 ≤ (a1 : Int) := of_decide_eq_true pD
       have q68 : (a1 : Int) < ((zc.length : Int) : Int) := of_decide_eq_true pD
       obtain ⟨go68, z2, zax, zay, gl68, cl68, HG68⟩ := Kd.R_form zb.out (by omega)
       (first | cases zax | (injection zax with ea_ en_ ec_; (first | subst ea_ | (injection ea_ with ea_; subst ea_)); subst ec_; clear en_))
       have GB68 := aM zay
       have GG68 := aM HG68
       clear zay gl68 HG68
       obtain ⟨hx68_0, hf68_0⟩ := Kd.R_celln 0 zb.out (a1 : Int) p68 q68
       replace p68 := eq_true p68
       replace q68 := eq_true q68
       obtain ⟨hy78_, hz78_⟩ := Kd.R_celln 0 zb.out (a1 : Int) (of_decide_eq_true pD) (of_decide_eq_true pD)
       have HP78 := Kd.R_putg zb.out (a1 : Int) a3
       try go_wp2_with (first | ((with_reducible refine gate_store (t := 3) (p := 111) rfl ?_); refine store_event (t := 3) (p := 111) (v := ?vo_w79) (w1 := (w74.setCell ⟨go68, (a1 : Int).toNat, none⟩ (.int .i64 a3))) ?hg ?ho ?hn ?hr ?_; (case ho => rfl); (case hg => rfl); (case hn => rfl); (case hr => first | (go_simp; done) | (go_simp; rfl)); intro w79 hw; have hg : w74.grownBy w79 (some go68) := (by rw [hw]; exact HP78.2); have hp_ : Kd.R (Kd.int .i64) 3 w79 w.heap.size (fun k_ => some k_ ≠ (u187002 : Value).ownBlock) (.slice (some ⟨go68, 0, none⟩) zc.length z2) z9 := (by rw [hw, za4.out]; exact HP78.1); clear HP78; replace za := aM (Kd.R_after (v := (.slice (some ⟨go68, 0, none⟩) zc.length z2)) (v1 := (.slice (some ⟨go68, 0, none⟩) zc.length z2)) (ok := (fun _ => True)) (by (with_reducible repeat (first | apply rA | apply rN | apply rD)); exact Kd.R_mono za.out (fun _ hk => ⟨trivial, hk⟩)) hg (.inl rfl)); replace zf := aM (blk_grown (g := zu) (pK zf.out) hg (Kd.R_ne zb.out zf.out (by decide))); replace ze := aM (blk_grown (g := zm) (pK ze.out) hg (Kd.R_ne zb.out ze.out (by decide))); replace zg := aM (blk_grown (g := zh) (pK zg.out) hg (Kd.R_ne zb.out zg.out (by decide))); replace zb := aM (hp_); replace HB := aM ((by rw [hw]; exact below_set (HB.out) GB68.out : Below w.heap.size w w79)); clear hg hw hp_; obtain ⟨hcz80_0, hcz80_1, hcz80_2, hfz80_0, hfz80_1, hfz80_2⟩ := blk3 zg.out; have p71 : 0 ≤ (a1 : Int) := of_decide_eq_true pD; have q71 : (a1 : Int) < ((zd.length : Int) : Int) := of_decide_eq_true pD; obtain ⟨go71, zal, zbg, zbh, gl71, cl71, HG71⟩ := Kd.R_form za.out (by omega); (first | cases zbg | (injection zbg with ea_ en_ ec_; (first | subst ea_ | (injection ea_ with ea_; subst ea_)); subst ec_; clear en_)); have GB71 := aM zbh; have GG71 := aM HG71; clear zbh gl71 HG71; obtain ⟨hx71_0, hf71_0⟩ := Kd.R_celln 0 za.out (a1 : Int) p71 q71; replace p71 := eq_true p71; replace q71 := eq_true q71; have n_ := aM (Kd.R_mono (ok' := (fun k_ => some k_ ≠ (.slice (some ⟨go68, 0, none⟩) zc.length z2 : Value).ownBlock)) za.out (fun k_ hk => hk.2)); clear za; have za := n_; clear n_; obtain ⟨hy81_, hz81_⟩ := Kd.R_celln 0 za.out (a1 : Int) (of_decide_eq_true pD) (of_decide_eq_true pD); have HP81 := Kd.R_putg za.out (a1 : Int) 0) | ((with_reducible refine gate_store (t := 3) (p := 117) rfl ?_); refine store_event (t := 3) (p := 117) (v := ?vo_w82) (w1 := (w79.setCell ⟨go71, (a1 : Int).toNat, none⟩ (.int .i64 0))) ?hg ?ho ?hn ?hr ?_; (case ho => rfl); (case hg => rfl); (case hn => rfl); (case hr => first | (go_simp; done) | (go_simp; rfl)); intro w82 hw; have hg : w79.grownBy w82 (some go71) := (by rw [hw]; exact HP81.2); have hp_ : Kd.R (Kd.int .i64) 3 w82 w.heap.size (fun k_ => some k_ ≠ (.slice (some ⟨go68, 0, none⟩) zc.length z2 : Value).ownBlock) (.slice (some ⟨go71, 0, none⟩) zd.length zal) zbf := (by rw [hw, Ny191.out]; exact HP81.1); clear HP81; replace zb := aM (Kd.R_after (v := (.slice (some ⟨go71, 0, none⟩) zd.length zal)) (v1 := (.slice (some ⟨go71, 0, none⟩) zd.length zal)) (ok := (fun _ => True)) (by (with_reducible repeat (first | apply rA | apply rN | apply rD)); exact Kd.R_mono zb.out (fun _ hk => ⟨trivial, hk⟩)) hg (.inl rfl)); replace zf := aM (blk_grown (g := zu) (pK zf.out) hg (Kd.R_ne za.out zf.out (by decide))); replace ze := aM (blk_grown (g := zm) (pK ze.out) hg (Kd.R_ne za.out ze.out (by decide))); replace zg := aM (blk_grown (g := zh) (pK zg.out) hg (Kd.R_ne za.out zg.out (by decide))); replace za := aM (hp_); replace HB := aM ((by rw [hw]; exact below_set (HB.out) GB71.out : Below w.heap.size w w82)); clear hg hw hp_; obtain ⟨hcz83_0, hcz83_1, hcz83_2, hfz83_0, hfz83_1, hfz83_2⟩ := blk3 zg.out; have hnb84 := zk.out; have hnc84 := zj.out; obtain ⟨hcz85_0, hcz85_1, hcz85_2, hfz85_0, hfz85_1, hfz85_2⟩ := blk3 ze.out))
       refine bodyPost_ret (results_ct rfl _ _ zm 44 #[.int .i64 (wrap64 (zq + (wrap64 (a2 * (rd l0_2 a1))))), .slice (some ⟨go68, 0, none⟩) zc.length z2, .slice (some ⟨go71, 0, none⟩) zd.length zal] (0, 0) _ rfl (by exact P3 ze) Try.underlying44 rfl (by kernel_rfl)) rfl ?_
       exact ⟨_, _, pE, by (with_reducible repeat (first | apply rA | apply rN | apply rD)); exact Kd.R_mono (Kd.R_far (p := ⟨zm, 2, none⟩) (Kd.R_far (p := ⟨zm, 1, none⟩) (Kd.R_far (p := ⟨zm, 0, none⟩) (Kd.R_types zb.out ze.out (by decide)) (fun _ hk => hk.2) (.int .i64 (wrap64 (zq + (wrap64 (a2 * (rd l0_2 a1))))))) (fun _ hk => hk.2) (.slice (some ⟨go68, 0, none⟩) zc.length z2)) (fun _ hk => hk.2) (.slice (some ⟨go71, 0, none⟩) zd.length zal)) (fun _ hk => hk.1.2), by (with_reducible repeat (first | apply rA | apply rN | apply rD)); exact Kd.R_mono (Kd.R_far (p := ⟨zm, 2, none⟩) (Kd.R_far (p := ⟨zm, 1, none⟩) (Kd.R_far (p := ⟨zm, 0, none⟩) (Kd.R_types za.out ze.out (by decide)) (fun _ hk => hk.2) (.int .i64 (wrap64 (zq + (wrap64 (a2 * (rd l0_2 a1))))))) (fun _ hk => hk.2) (.slice (some ⟨go68, 0, none⟩) zc.length z2)) (fun _ hk => hk.2) (.slice (some ⟨go71, 0, none⟩) zd.length zal)) (fun _ hk => hk.1), qB3 HB zl zp zx⟩
def move_View.f (k : Nat) (a0 : Int) (a1_0 : Int) (a1_1 : Int) (a1_2 : Int) (a1_3 : Int) (a1_4 : Int) (a1_5 : Int) (a1_6 : Int) (a1_7 : Int) (a1_8 : Bool) (l1_9 : List Int) (a2_0 : Int) (l2_1 : List Int) (l2_2 : List Int) : Option (Int × List Int × List Int × Int) := if a0 = 33 then ((view_Reshape.f k a2_0 l2_1 l2_2 l1_9).bind fun bt250 => (some (bt250.1, bt250.2.1, bt250.2.2.1, bt250.2.2.2))) else (if a0 = 34 then ((view_Permute.f k a2_0 l2_1 l2_2 l1_9).bind fun bt258 => (some (bt258.1, bt258.2.1, bt258.2.2.1, bt258.2.2.2))) else (if a0 = 35 then ((view_Slice.f k a2_0 l2_1 l2_2 a1_0 a1_1 a1_2 a1_3).bind fun bt266 => (some (bt266.1, bt266.2.1, bt266.2.2.1, bt266.2.2.2))) else (if a0 = 36 then ((view_Expand.f k a2_0 l2_1 l2_2 l1_9).bind fun bt274 => (some (bt274.1, bt274.2.1, bt274.2.2.1, bt274.2.2.2))) else (if a0 = 37 then ((view_Flip.f k a2_0 l2_1 l2_2 a1_0).bind fun bt282 => (some (bt282.1, bt282.2.1, bt282.2.2.1, bt282.2.2.2))) else (some (0, ([] : List Int), ([] : List Int), 14))))))
set_option maxHeartbeats 8000000 in
set_option maxRecDepth 100000 in
theorem move_View.calls (k : Nat) (a0 : Int) (a1_0 : Int) (a1_1 : Int) (a1_2 : Int) (a1_3 : Int) (a1_4 : Int) (a1_5 : Int) (a1_6 : Int) (a1_7 : Int) (a1_8 : Bool) (A1_9 : Option Addr) (c1_9 : Nat) (l1_9 : List Int) (a2_0 : Int) (A2_1 : Option Addr) (c2_1 : Nat) (l2_1 : List Int) (A2_2 : Option Addr) (c2_2 : Nat) (l2_2 : List Int) (r1 : Int) (r2 : List Int) (r3 : List Int) (r4 : Int) (w : World) (hr1_9 : Kd.C (Kd.int .i64) w A1_9 l1_9.length l1_9) (hc1_9 : l1_9.length ≤ c1_9) (hr2_1 : Kd.C (Kd.int .i64) w A2_1 l2_1.length l2_1) (hc2_1 : l2_1.length ≤ c2_1) (hr2_2 : Kd.C (Kd.int .i64) w A2_2 l2_2.length l2_2) (hc2_2 : l2_2.length ≤ c2_2) (h : move_View.f k a0 a1_0 a1_1 a1_2 a1_3 a1_4 a1_5 a1_6 a1_7 a1_8 l1_9 a2_0 l2_1 l2_2 = some (r1, r2, r3, r4)) :
  Calls Try.prog 18 #[.int .i64 a0, .agg #[.int .i64 a1_0, .int .i64 a1_1, .int .i64 a1_2, .int .i64 a1_3, .int .i64 a1_4, .int .i64 a1_5, .int .i64 a1_6, .int .i64 a1_7, .bool a1_8, .slice A1_9 l1_9.length c1_9], .agg #[.int .i64 a2_0, .slice A2_1 l2_1.length c2_1, .slice A2_2 l2_2.length c2_2]] w fun e w' => ∃ v1_ v2_ : Value, e = .returned (.tuple #[.agg #[.int .i64 r1, v1_, v2_], .int .i64 r4]) ∧ Kd.R (Kd.int .i64) 3 w' w.heap.size (fun k_ => some k_ ≠ (v2_ : Value).ownBlock) v1_ r2 ∧ Kd.R (Kd.int .i64) 3 w' w.heap.size (fun k_ => some k_ ≠ (v1_ : Value).ownBlock) v2_ r3 ∧ Below w.heap.size w w' := by
 have hu24 := Try.underlying24
 have hu44 := Try.underlying44
 have zw := aM hr1_9
 have zx := aM hc1_9
 clear hr1_9 hc1_9
 have zq := aM hr2_1
 have zr := aM hc2_1
 clear hr2_1 hc2_1
 have zs := aM hr2_2
 have zt := aM hc2_2
 clear hr2_2 hc2_2
 have HB := aM (Below.refl w.heap.size w)
 have H : (if a0 = 33 then ((view_Reshape.f k a2_0 l2_1 l2_2 l1_9).bind fun bt250 => (some (bt250.1, bt250.2.1, bt250.2.2.1, bt250.2.2.2))) else (if a0 = 34 then ((view_Permute.f k a2_0 l2_1 l2_2 l1_9).bind fun bt258 => (some (bt258.1, bt258.2.1, bt258.2.2.1, bt258.2.2.2))) else (if a0 = 35 then ((view_Slice.f k a2_0 l2_1 l2_2 a1_0 a1_1 a1_2 a1_3).bind fun bt266 => (some (bt266.1, bt266.2.1, bt266.2.2.1, bt266.2.2.2))) else (if a0 = 36 then ((view_Expand.f k a2_0 l2_1 l2_2 l1_9).bind fun bt274 => (some (bt274.1, bt274.2.1, bt274.2.2.1, bt274.2.2.2))) else (if a0 = 37 then ((view_Flip.f k a2_0 l2_1 l2_2 a1_0).bind fun bt282 => (some (bt282.1, bt282.2.1, bt282.2.2.1, bt282.2.2.2))) else (some (0, ([] : List Int), ([] : List Int), 14))))))) = some (r1, r2, r3, r4) := h
 clear h
 by_cases c4 : a0 = 33
 ·rw [if_pos c4] at H
  have c4b0 : (a0 == 33) = true := beq_iff_eq.mpr c4
  have c4b1 : (a0 != 33) = false := bne_eq_false_iff_eq.mpr c4
  clear c4
  replace H := Option.bind_eq_some_iff.mp H
  obtain ⟨⟨z8, z9, zaa, t257⟩, A50, H⟩ := H
  try dsimp only at H
  have A5 := aM A50
  clear A50
  simp only [Option.some.injEq, Prod.mk.injEq] at H
  obtain ⟨rfl, rfl, rfl, rfl⟩ := H
  go_enter Try.func18, Try.ntmps18
  go_wp2_with (first | ((with_reducible refine gate_dst (N := 4) rfl ?_); refine box_event ?hg (N := 4) ?hd (cs := #[.int .i64 a1_0, .int .i64 a1_1, .int .i64 a1_2, .int .i64 a1_3, .int .i64 a1_4, .int .i64 a1_5, .int .i64 a1_6, .int .i64 a1_7, .bool a1_8, .slice A1_9 l1_9.length c1_9]) (t := 24) ?hr ?_; (case hd => rfl); (case hg => rfl); (case hr => first | (go_simp; done) | (go_simp; rfl)); intro zu hg w6 hbox hb; have za := aM (hbox); have zm := gE (w := w) hg (qB HB); have zb := zm; replace HB := bS (qB HB) hb; clear hb hbox hg) | ((with_reducible refine gate_dst (N := 5) rfl ?_); refine box_event ?hg (N := 5) ?hd (cs := #[.int .i64 a2_0, .slice A2_1 l2_1.length c2_1, .slice A2_2 l2_2.length c2_2]) (t := 44) ?hr ?_; (case hd => rfl); (case hg => rfl); (case hr => first | (go_simp; done) | (go_simp; rfl)); intro zv hg w7 hbox hb; have zc := aM (hbox); have zn := gE (w := w) hg (qB1 HB zb); have zd := zn; replace HB := bS (qB1 HB zb) hb; have zk := nL hg za; have zl := nG hg za; replace za := bK za hb; clear hb hbox hg) | ((with_reducible refine gate_dst (N := 6) rfl ?_); refine box_event ?hg (N := 6) ?hd (cs := #[.int .i64 0, .slice none 0 0, .slice none 0 0]) (t := 44) ?hr ?_; (case hd => rfl); (case hg => rfl); (case hr => first | (go_simp; done) | (go_simp; rfl)); intro zo hg w8 hbox hb; have ze := aM (hbox); have zp := gE (w := w) hg (qB2 HB zb zd); have zj := zp; replace HB := bS (qB2 HB zb zd) hb; have zf := nL hg za; have zg := nG hg za; replace za := bK za hb; have zh := nL hg zc; have zi := nG hg zc; replace zc := bK zc hb; clear hb hbox hg; have hnb9 := zl.out; have hnc9 := zk.out; have hnb10 := zh.out; have hnc10 := zi.out; obtain ⟨hcz11_0, hcz11_1, hcz11_2, hfz11_0, hfz11_1, hfz11_2⟩ := blk3 zc.out; have hnb12 := zf.out; have hnc12 := zg.out; obtain ⟨hcz13_0, hcz13_1, hcz13_2, hcz13_3, hcz13_4, hcz13_5, hcz13_6, hcz13_7, hcz13_8, hcz13_9, hfz13_0, hfz13_1, hfz13_2, hfz13_3, hfz13_4, hfz13_5, hfz13_6, hfz13_7, hfz13_8, hfz13_9⟩ := blk10 za.out) | ((with_reducible refine gate_callee (f := 43) rfl ?_); refine goesL_ (some 14) rfl rfl Try.func43 (by kernel_rfl) rfl #[.agg #[.int .i64 a2_0, .slice A2_1 l2_1.length c2_1, .slice A2_2 l2_2.length c2_2], .slice A1_9 l1_9.length c1_9] rfl pA ?_; (with_reducible refine (view_Reshape.calls k a2_0 _ _ l2_1 _ _ l2_2 _ _ l1_9 z8 z9 zaa t257 _ ?s1 ?s2 ?s3 ?s4 ?s5 ?s6 A5.out).mono ?_); (case s1 => exact sC zq HB); (case s2 => exact zr.out); (case s3 => exact sC zs HB); (case s4 => exact zt.out); (case s5 => exact sC zw HB); (case s6 => exact zx.out); rintro e w14 ⟨v252, v255, rfl, ho0, ho1, hb⟩; refine ⟨_, rfl, ?_⟩; have zy := aM (Kd.R_lower ho0 (below_size (qB3 HB zb zd zj))); have zz := aM (Kd.R_lower ho1 (below_size (qB3 HB zb zd zj))); replace za := bK za hb; replace zc := bK zc hb; replace ze := bK ze hb; replace HB := bS (qB3 HB zb zd zj) hb; (try clear hb); (try clear hk); (try clear hi); (try clear ho0); (try clear ho1); obtain ⟨hcz15_0, hcz15_1, hcz15_2, hfz15_0, hfz15_1, hfz15_2⟩ := blk3 ze.out; obtain ⟨Ao16, co16, eo16⟩ := Kd.R_slice zy.out; subst eo16; obtain ⟨Ao17, co17, eo17⟩ := Kd.R_slice zz.out; subst eo17))
  refine bodyPost_ret (results_ct rfl _ _ zo 44 #[.int .i64 z8, .slice Ao16 z9.length co16, .slice Ao17 zaa.length co17] (0, 0) _ rfl (by exact P3 ze) Try.underlying44 rfl (by kernel_rfl)) rfl ?_
  exact ⟨_, _, pE, by (with_reducible repeat (first | apply rA | apply rN | apply rD)); exact F3 zy ze (fun _ hk => hk.1), by (with_reducible repeat (first | apply rA | apply rN | apply rD)); exact F3 zz ze (fun _ hk => hk.1), qB3 HB zb zd zj⟩
 rw [if_neg c4] at H
 have c4b0 : (a0 == 33) = false := beq_eq_false_iff_ne.mpr c4
 have c4b1 : (a0 != 33) = true := bne_iff_ne.mpr c4
 by_cases c18 : a0 = 34
 ·rw [if_pos c18] at H
  have c18b0 : (a0 == 34) = true := beq_iff_eq.mpr c18
  have c18b1 : (a0 != 34) = false := bne_eq_false_iff_eq.mpr c18
  clear c18
  replace H := Option.bind_eq_some_iff.mp H
  obtain ⟨⟨zab, zac, zad, t265⟩, zae, H⟩ := H
  try dsimp only at H
  have A19 := aM zae
  clear zae
  simp only [Option.some.injEq, Prod.mk.injEq] at H
  obtain ⟨rfl, rfl, rfl, rfl⟩ := H
  go_enter Try.func18, Try.ntmps18
  go_wp2_with (first | ((with_reducible refine gate_dst (N := 4) rfl ?_); refine box_event ?hg (N := 4) ?hd (cs := #[.int .i64 a1_0, .int .i64 a1_1, .int .i64 a1_2, .int .i64 a1_3, .int .i64 a1_4, .int .i64 a1_5, .int .i64 a1_6, .int .i64 a1_7, .bool a1_8, .slice A1_9 l1_9.length c1_9]) (t := 24) ?hr ?_; (case hd => rfl); (case hg => rfl); (case hr => first | (go_simp; done) | (go_simp; rfl)); intro zu hg w20 hbox hb; have za := aM (hbox); have zm := gE (w := w) hg (qB HB); have zb := zm; replace HB := bS (qB HB) hb; clear hb hbox hg) | ((with_reducible refine gate_dst (N := 5) rfl ?_); refine box_event ?hg (N := 5) ?hd (cs := #[.int .i64 a2_0, .slice A2_1 l2_1.length c2_1, .slice A2_2 l2_2.length c2_2]) (t := 44) ?hr ?_; (case hd => rfl); (case hg => rfl); (case hr => first | (go_simp; done) | (go_simp; rfl)); intro zv hg w21 hbox hb; have zc := aM (hbox); have zn := gE (w := w) hg (qB1 HB zb); have zd := zn; replace HB := bS (qB1 HB zb) hb; have zk := nL hg za; have zl := nG hg za; replace za := bK za hb; clear hb hbox hg) | ((with_reducible refine gate_dst (N := 6) rfl ?_); refine box_event ?hg (N := 6) ?hd (cs := #[.int .i64 0, .slice none 0 0, .slice none 0 0]) (t := 44) ?hr ?_; (case hd => rfl); (case hg => rfl); (case hr => first | (go_simp; done) | (go_simp; rfl)); intro zo hg w22 hbox hb; have ze := aM (hbox); have zp := gE (w := w) hg (qB2 HB zb zd); have zj := zp; replace HB := bS (qB2 HB zb zd) hb; have zf := nL hg za; have zg := nG hg za; replace za := bK za hb; have zh := nL hg zc; have zi := nG hg zc; replace zc := bK zc hb; clear hb hbox hg; have hnb23 := zl.out; have hnc23 := zk.out; have hnb24 := zh.out; have hnc24 := zi.out; obtain ⟨hcz25_0, hcz25_1, hcz25_2, hfz25_0, hfz25_1, hfz25_2⟩ := blk3 zc.out; have hnb26 := zf.out; have hnc26 := zg.out; obtain ⟨hcz27_0, hcz27_1, hcz27_2, hcz27_3, hcz27_4, hcz27_5, hcz27_6, hcz27_7, hcz27_8, hcz27_9, hfz27_0, hfz27_1, hfz27_2, hfz27_3, hfz27_4, hfz27_5, hfz27_6, hfz27_7, hfz27_8, hfz27_9⟩ := blk10 za.out) | ((with_reducible refine gate_callee (f := 44) rfl ?_); refine goesL_ (some 22) rfl rfl Try.func44 (by kernel_rfl) rfl #[.agg #[.int .i64 a2_0, .slice A2_1 l2_1.length c2_1, .slice A2_2 l2_2.length c2_2], .slice A1_9 l1_9.length c1_9] rfl pA ?_; (with_reducible refine (view_Permute.calls k a2_0 _ _ l2_1 _ _ l2_2 _ _ l1_9 zab zac zad t265 _ ?s1 ?s2 ?s3 ?s4 ?s5 ?s6 A19.out).mono ?_); (case s1 => exact sC zq HB); (case s2 => exact zr.out); (case s3 => exact sC zs HB); (case s4 => exact zt.out); (case s5 => exact sC zw HB); (case s6 => exact zx.out); rintro e w28 ⟨v260, v263, rfl, ho0, ho1, hb⟩; refine ⟨_, rfl, ?_⟩; have z0 := aM (Kd.R_lower ho0 (below_size (qB3 HB zb zd zj))); have z1 := aM (Kd.R_lower ho1 (below_size (qB3 HB zb zd zj))); replace za := bK za hb; replace zc := bK zc hb; replace ze := bK ze hb; replace HB := bS (qB3 HB zb zd zj) hb; (try clear hb); (try clear hk); (try clear hi); (try clear ho0); (try clear ho1); obtain ⟨hcz29_0, hcz29_1, hcz29_2, hfz29_0, hfz29_1, hfz29_2⟩ := blk3 ze.out; obtain ⟨Ao30, co30, eo30⟩ := Kd.R_slice z0.out; subst eo30; obtain ⟨Ao31, co31, eo31⟩ := Kd.R_slice z1.out; subst eo31))
  refine bodyPost_ret (results_ct rfl _ _ zo 44 #[.int .i64 zab, .slice Ao30 zac.length co30, .slice Ao31 zad.length co31] (0, 0) _ rfl (by exact P3 ze) Try.underlying44 rfl (by kernel_rfl)) rfl ?_
  exact ⟨_, _, pE, by (with_reducible repeat (first | apply rA | apply rN | apply rD)); exact F3 z0 ze (fun _ hk => hk.1), by (with_reducible repeat (first | apply rA | apply rN | apply rD)); exact F3 z1 ze (fun _ hk => hk.1), qB3 HB zb zd zj⟩
 rw [if_neg c18] at H
 have c18b0 : (a0 == 34) = false := beq_eq_false_iff_ne.mpr c18
 have c18b1 : (a0 != 34) = true := bne_iff_ne.mpr c18
 by_cases c32 : a0 = 35
 ·rw [if_pos c32] at H
  have c32b0 : (a0 == 35) = true := beq_iff_eq.mpr c32
  have c32b1 : (a0 != 35) = false := bne_eq_false_iff_eq.mpr c32
  clear c32
  replace H := Option.bind_eq_some_iff.mp H
  obtain ⟨⟨zaf, zag, zah, t273⟩, zai, H⟩ := H
  try dsimp only at H
  have A33 := aM zai
  clear zai
  simp only [Option.some.injEq, Prod.mk.injEq] at H
  obtain ⟨rfl, rfl, rfl, rfl⟩ := H
  go_enter Try.func18, Try.ntmps18
  go_wp2_with (first | ((with_reducible refine gate_dst (N := 4) rfl ?_); refine box_event ?hg (N := 4) ?hd (cs := #[.int .i64 a1_0, .int .i64 a1_1, .int .i64 a1_2, .int .i64 a1_3, .int .i64 a1_4, .int .i64 a1_5, .int .i64 a1_6, .int .i64 a1_7, .bool a1_8, .slice A1_9 l1_9.length c1_9]) (t := 24) ?hr ?_; (case hd => rfl); (case hg => rfl); (case hr => first | (go_simp; done) | (go_simp; rfl)); intro zu hg w34 hbox hb; have za := aM (hbox); have zm := gE (w := w) hg (qB HB); have zb := zm; replace HB := bS (qB HB) hb; clear hb hbox hg) | ((with_reducible refine gate_dst (N := 5) rfl ?_); refine box_event ?hg (N := 5) ?hd (cs := #[.int .i64 a2_0, .slice A2_1 l2_1.length c2_1, .slice A2_2 l2_2.length c2_2]) (t := 44) ?hr ?_; (case hd => rfl); (case hg => rfl); (case hr => first | (go_simp; done) | (go_simp; rfl)); intro zv hg w35 hbox hb; have zc := aM (hbox); have zn := gE (w := w) hg (qB1 HB zb); have zd := zn; replace HB := bS (qB1 HB zb) hb; have zk := nL hg za; have zl := nG hg za; replace za := bK za hb; clear hb hbox hg) | ((with_reducible refine gate_dst (N := 6) rfl ?_); refine box_event ?hg (N := 6) ?hd (cs := #[.int .i64 0, .slice none 0 0, .slice none 0 0]) (t := 44) ?hr ?_; (case hd => rfl); (case hg => rfl); (case hr => first | (go_simp; done) | (go_simp; rfl)); intro zo hg w36 hbox hb; have ze := aM (hbox); have zp := gE (w := w) hg (qB2 HB zb zd); have zj := zp; replace HB := bS (qB2 HB zb zd) hb; have zf := nL hg za; have zg := nG hg za; replace za := bK za hb; have zh := nL hg zc; have zi := nG hg zc; replace zc := bK zc hb; clear hb hbox hg; have hnb37 := zl.out; have hnc37 := zk.out; have hnb38 := zh.out; have hnc38 := zi.out; obtain ⟨hcz39_0, hcz39_1, hcz39_2, hfz39_0, hfz39_1, hfz39_2⟩ := blk3 zc.out; have hnb40 := zf.out; have hnc40 := zg.out; obtain ⟨hcz41_0, hcz41_1, hcz41_2, hcz41_3, hcz41_4, hcz41_5, hcz41_6, hcz41_7, hcz41_8, hcz41_9, hfz41_0, hfz41_1, hfz41_2, hfz41_3, hfz41_4, hfz41_5, hfz41_6, hfz41_7, hfz41_8, hfz41_9⟩ := blk10 za.out) | ((with_reducible refine gate_callee (f := 45) rfl ?_); refine goesL_ (some 36) rfl rfl Try.func45 (by kernel_rfl) rfl #[.agg #[.int .i64 a2_0, .slice A2_1 l2_1.length c2_1, .slice A2_2 l2_2.length c2_2], .int .i64 a1_0, .int .i64 a1_1, .int .i64 a1_2, .int .i64 a1_3] rfl pA ?_; (with_reducible refine (view_Slice.calls k a2_0 _ _ l2_1 _ _ l2_2 a1_0 a1_1 a1_2 a1_3 zaf zag zah t273 _ ?s1 ?s2 ?s3 ?s4 A33.out).mono ?_); (case s1 => exact sC zq HB); (case s2 => exact zr.out); (case s3 => exact sC zs HB); (case s4 => exact zt.out); rintro e w42 ⟨v268, v271, rfl, ho0, ho1, hb⟩; refine ⟨_, rfl, ?_⟩; have z2 := aM (Kd.R_lower ho0 (below_size (qB3 HB zb zd zj))); have z3 := aM (Kd.R_lower ho1 (below_size (qB3 HB zb zd zj))); replace za := bK za hb; replace zc := bK zc hb; replace ze := bK ze hb; replace HB := bS (qB3 HB zb zd zj) hb; (try clear hb); (try clear hk); (try clear hi); (try clear ho0); (try clear ho1); obtain ⟨hcz43_0, hcz43_1, hcz43_2, hfz43_0, hfz43_1, hfz43_2⟩ := blk3 ze.out; obtain ⟨Ao44, co44, eo44⟩ := Kd.R_slice z2.out; subst eo44; obtain ⟨Ao45, co45, eo45⟩ := Kd.R_slice z3.out; subst eo45))
  refine bodyPost_ret (results_ct rfl _ _ zo 44 #[.int .i64 zaf, .slice Ao44 zag.length co44, .slice Ao45 zah.length co45] (0, 0) _ rfl (by exact P3 ze) Try.underlying44 rfl (by kernel_rfl)) rfl ?_
  exact ⟨_, _, pE, by (with_reducible repeat (first | apply rA | apply rN | apply rD)); exact F3 z2 ze (fun _ hk => hk.1), by (with_reducible repeat (first | apply rA | apply rN | apply rD)); exact F3 z3 ze (fun _ hk => hk.1), qB3 HB zb zd zj⟩
 rw [if_neg c32] at H
 have c32b0 : (a0 == 35) = false := beq_eq_false_iff_ne.mpr c32
 have c32b1 : (a0 != 35) = true := bne_iff_ne.mpr c32
 by_cases c46 : a0 = 36
 ·rw [if_pos c46] at H
  have c46b0 : (a0 == 36) = true := beq_iff_eq.mpr c46
  have c46b1 : (a0 != 36) = false := bne_eq_false_iff_eq.mpr c46
  clear c46
  replace H := Option.bind_eq_some_iff.mp H
  obtain ⟨⟨zaj, zak, zal, t281⟩, zam, H⟩ := H
  try dsimp only at H
  have A47 := aM zam
  clear zam
  simp only [Option.some.injEq, Prod.mk.injEq] at H
  obtain ⟨rfl, rfl, rfl, rfl⟩ := H
  go_enter Try.func18, Try.ntmps18
  go_wp2_with (first | ((with_reducible refine gate_dst (N := 4) rfl ?_); refine box_event ?hg (N := 4) ?hd (cs := #[.int .i64 a1_0, .int .i64 a1_1, .int .i64 a1_2, .int .i64 a1_3, .int .i64 a1_4, .int .i64 a1_5, .int .i64 a1_6, .int .i64 a1_7, .bool a1_8, .slice A1_9 l1_9.length c1_9]) (t := 24) ?hr ?_; (case hd => rfl); (case hg => rfl); (case hr => first | (go_simp; done) | (go_simp; rfl)); intro zu hg w48 hbox hb; have za := aM (hbox); have zm := gE (w := w) hg (qB HB); have zb := zm; replace HB := bS (qB HB) hb; clear hb hbox hg) | ((with_reducible refine gate_dst (N := 5) rfl ?_); refine box_event ?hg (N := 5) ?hd (cs := #[.int .i64 a2_0, .slice A2_1 l2_1.length c2_1, .slice A2_2 l2_2.length c2_2]) (t := 44) ?hr ?_; (case hd => rfl); (case hg => rfl); (case hr => first | (go_simp; done) | (go_simp; rfl)); intro zv hg w49 hbox hb; have zc := aM (hbox); have zn := gE (w := w) hg (qB1 HB zb); have zd := zn; replace HB := bS (qB1 HB zb) hb; have zk := nL hg za; have zl := nG hg za; replace za := bK za hb; clear hb hbox hg) | ((with_reducible refine gate_dst (N := 6) rfl ?_); refine box_event ?hg (N := 6) ?hd (cs := #[.int .i64 0, .slice none 0 0, .slice none 0 0]) (t := 44) ?hr ?_; (case hd => rfl); (case hg => rfl); (case hr => first | (go_simp; done) | (go_simp; rfl)); intro zo hg w50 hbox hb; have ze := aM (hbox); have zp := gE (w := w) hg (qB2 HB zb zd); have zj := zp; replace HB := bS (qB2 HB zb zd) hb; have zf := nL hg za; have zg := nG hg za; replace za := bK za hb; have zh := nL hg zc; have zi := nG hg zc; replace zc := bK zc hb; clear hb hbox hg; have hnb51 := zl.out; have hnc51 := zk.out; have hnb52 := zh.out; have hnc52 := zi.out; obtain ⟨hcz53_0, hcz53_1, hcz53_2, hfz53_0, hfz53_1, hfz53_2⟩ := blk3 zc.out; have hnb54 := zf.out; have hnc54 := zg.out; obtain ⟨hcz55_0, hcz55_1, hcz55_2, hcz55_3, hcz55_4, hcz55_5, hcz55_6, hcz55_7, hcz55_8, hcz55_9, hfz55_0, hfz55_1, hfz55_2, hfz55_3, hfz55_4, hfz55_5, hfz55_6, hfz55_7, hfz55_8, hfz55_9⟩ := blk10 za.out) | ((with_reducible refine gate_callee (f := 46) rfl ?_); refine goesL_ (some 44) rfl rfl Try.func46 (by kernel_rfl) rfl #[.agg #[.int .i64 a2_0, .slice A2_1 l2_1.length c2_1, .slice A2_2 l2_2.length c2_2], .slice A1_9 l1_9.length c1_9] rfl pA ?_; (with_reducible refine (view_Expand.calls k a2_0 _ _ l2_1 _ _ l2_2 _ _ l1_9 zaj zak zal t281 _ ?s1 ?s2 ?s3 ?s4 ?s5 ?s6 A47.out).mono ?_); (case s1 => exact sC zq HB); (case s2 => exact zr.out); (case s3 => exact sC zs HB); (case s4 => exact zt.out); (case s5 => exact sC zw HB); (case s6 => exact zx.out); rintro e w56 ⟨v276, v279, rfl, ho0, ho1, hb⟩; refine ⟨_, rfl, ?_⟩; have z4 := aM (Kd.R_lower ho0 (below_size (qB3 HB zb zd zj))); have z5 := aM (Kd.R_lower ho1 (below_size (qB3 HB zb zd zj))); replace za := bK za hb; replace zc := bK zc hb; replace ze := bK ze hb; replace HB := bS (qB3 HB zb zd zj) hb; (try clear hb); (try clear hk); (try clear hi); (try clear ho0); (try clear ho1); obtain ⟨hcz57_0, hcz57_1, hcz57_2, hfz57_0, hfz57_1, hfz57_2⟩ := blk3 ze.out; obtain ⟨Ao58, co58, eo58⟩ := Kd.R_slice z4.out; subst eo58; obtain ⟨Ao59, co59, eo59⟩ := Kd.R_slice z5.out; subst eo59))
  refine bodyPost_ret (results_ct rfl _ _ zo 44 #[.int .i64 zaj, .slice Ao58 zak.length co58, .slice Ao59 zal.length co59] (0, 0) _ rfl (by exact P3 ze) Try.underlying44 rfl (by kernel_rfl)) rfl ?_
  exact ⟨_, _, pE, by (with_reducible repeat (first | apply rA | apply rN | apply rD)); exact F3 z4 ze (fun _ hk => hk.1), by (with_reducible repeat (first | apply rA | apply rN | apply rD)); exact F3 z5 ze (fun _ hk => hk.1), qB3 HB zb zd zj⟩
 rw [if_neg c46] at H
 have c46b0 : (a0 == 36) = false := beq_eq_false_iff_ne.mpr c46
 have c46b1 : (a0 != 36) = true := bne_iff_ne.mpr c46
 by_cases c60 : a0 = 37
 rotate_left
 ·rw [if_neg c60] at H
  have c60b0 : (a0 == 37) = false := beq_eq_false_iff_ne.mpr c60
  have c60b1 : (a0 != 37) = true := bne_iff_ne.mpr c60
  simp only [Option.some.injEq, Prod.mk.injEq] at H
  obtain ⟨rfl, rfl, rfl, rfl⟩ := H
  go_enter Try.func18, Try.ntmps18
  go_wp2_with (first | ((with_reducible refine gate_dst (N := 4) rfl ?_); refine box_event ?hg (N := 4) ?hd (cs := #[.int .i64 a1_0, .int .i64 a1_1, .int .i64 a1_2, .int .i64 a1_3, .int .i64 a1_4, .int .i64 a1_5, .int .i64 a1_6, .int .i64 a1_7, .bool a1_8, .slice A1_9 l1_9.length c1_9]) (t := 24) ?hr ?_; (case hd => rfl); (case hg => rfl); (case hr => first | (go_simp; done) | (go_simp; rfl)); intro zu hg w74 hbox hb; have za := aM (hbox); have zm := gE (w := w) hg (qB HB); have zb := zm; replace HB := bS (qB HB) hb; clear hb hbox hg) | ((with_reducible refine gate_dst (N := 5) rfl ?_); refine box_event ?hg (N := 5) ?hd (cs := #[.int .i64 a2_0, .slice A2_1 l2_1.length c2_1, .slice A2_2 l2_2.length c2_2]) (t := 44) ?hr ?_; (case hd => rfl); (case hg => rfl); (case hr => first | (go_simp; done) | (go_simp; rfl)); intro zv hg w75 hbox hb; have zc := aM (hbox); have zn := gE (w := w) hg (qB1 HB zb); have zd := zn; replace HB := bS (qB1 HB zb) hb; have zk := nL hg za; have zl := nG hg za; replace za := bK za hb; clear hb hbox hg) | ((with_reducible refine gate_dst (N := 6) rfl ?_); refine box_event ?hg (N := 6) ?hd (cs := #[.int .i64 0, .slice none 0 0, .slice none 0 0]) (t := 44) ?hr ?_; (case hd => rfl); (case hg => rfl); (case hr => first | (go_simp; done) | (go_simp; rfl)); intro zo hg w76 hbox hb; have ze := aM (hbox); have zp := gE (w := w) hg (qB2 HB zb zd); have zj := zp; replace HB := bS (qB2 HB zb zd) hb; have zf := nL hg za; have zg := nG hg za; replace za := bK za hb; have zh := nL hg zc; have zi := nG hg zc; replace zc := bK zc hb; clear hb hbox hg; have hnb77 := zg.out; have hnc77 := zf.out; have hnb78 := zi.out; have hnc78 := zh.out; obtain ⟨hcz79_0, hcz79_1, hcz79_2, hfz79_0, hfz79_1, hfz79_2⟩ := blk3 ze.out))
  refine bodyPost_ret (results_ct rfl _ _ zo 44 #[.int .i64 0, .slice none 0 0, .slice none 0 0] (0, 0) _ rfl (by exact P3 ze) Try.underlying44 rfl (by kernel_rfl)) rfl ?_
  exact ⟨_, _, pE, pN, pN, qB3 HB zb zd zj⟩
 rw [if_pos c60] at H
 have c60b0 : (a0 == 37) = true := beq_iff_eq.mpr c60
 have c60b1 : (a0 != 37) = false := bne_eq_false_iff_eq.mpr c60
 clear c60
 replace H := Option.bind_eq_some_iff.mp H
 obtain ⟨⟨zan, zao, zap, t289⟩, zaq, H⟩ := H
 try dsimp only at H
 have A61 := aM zaq
 clear zaq
 simp only [Option.some.injEq, Prod.mk.injEq] at H
 obtain ⟨rfl, rfl, rfl, rfl⟩ := H
 go_enter Try.func18, Try.ntmps18
 go_wp2_with (first | ((with_reducible refine gate_dst (N := 4) rfl ?_); refine box_event ?hg (N := 4) ?hd (cs := #[.int .i64 a1_0, .int .i64 a1_1, .int .i64 a1_2, .int .i64 a1_3, .int .i64 a1_4, .int .i64 a1_5, .int .i64 a1_6, .int .i64 a1_7, .bool a1_8, .slice A1_9 l1_9.length c1_9]) (t := 24) ?hr ?_; (case hd => rfl); (case hg => rfl); (case hr => first | (go_simp; done) | (go_simp; rfl)); intro zu hg w62 hbox hb; have za := aM (hbox); have zm := gE (w := w) hg (qB HB); have zb := zm; replace HB := bS (qB HB) hb; clear hb hbox hg) | ((with_reducible refine gate_dst (N := 5) rfl ?_); refine box_event ?hg (N := 5) ?hd (cs := #[.int .i64 a2_0, .slice A2_1 l2_1.length c2_1, .slice A2_2 l2_2.length c2_2]) (t := 44) ?hr ?_; (case hd => rfl); (case hg => rfl); (case hr => first | (go_simp; done) | (go_simp; rfl)); intro zv hg w63 hbox hb; have zc := aM (hbox); have zn := gE (w := w) hg (qB1 HB zb); have zd := zn; replace HB := bS (qB1 HB zb) hb; have zk := nL hg za; have zl := nG hg za; replace za := bK za hb; clear hb hbox hg) | ((with_reducible refine gate_dst (N := 6) rfl ?_); refine box_event ?hg (N := 6) ?hd (cs := #[.int .i64 0, .slice none 0 0, .slice none 0 0]) (t := 44) ?hr ?_; (case hd => rfl); (case hg => rfl); (case hr => first | (go_simp; done) | (go_simp; rfl)); intro zo hg w64 hbox hb; have ze := aM (hbox); have zp := gE (w := w) hg (qB2 HB zb zd); have zj := zp; replace HB := bS (qB2 HB zb zd) hb; have zf := nL hg za; have zg := nG hg za; replace za := bK za hb; have zh := nL hg zc; have zi := nG hg zc; replace zc := bK zc hb; clear hb hbox hg; have hnb65 := zl.out; have hnc65 := zk.out; have hnb66 := zh.out; have hnc66 := zi.out; obtain ⟨hcz67_0, hcz67_1, hcz67_2, hfz67_0, hfz67_1, hfz67_2⟩ := blk3 zc.out; have hnb68 := zf.out; have hnc68 := zg.out; obtain ⟨hcz69_0, hcz69_1, hcz69_2, hcz69_3, hcz69_4, hcz69_5, hcz69_6, hcz69_7, hcz69_8, hcz69_9, hfz69_0, hfz69_1, hfz69_2, hfz69_3, hfz69_4, hfz69_5, hfz69_6, hfz69_7, hfz69_8, hfz69_9⟩ := blk10 za.out) | ((with_reducible refine gate_callee (f := 47) rfl ?_); refine goesL_ (some 52) rfl rfl Try.func47 (by kernel_rfl) rfl #[.agg #[.int .i64 a2_0, .slice A2_1 l2_1.length c2_1, .slice A2_2 l2_2.length c2_2], .int .i64 a1_0] rfl pA ?_; (with_reducible refine (view_Flip.calls k a2_0 _ _ l2_1 _ _ l2_2 a1_0 zan zao zap t289 _ ?s1 ?s2 ?s3 ?s4 A61.out).mono ?_); (case s1 => exact sC zq HB); (case s2 => exact zr.out); (case s3 => exact sC zs HB); (case s4 => exact zt.out); rintro e w70 ⟨v284, v287, rfl, ho0, ho1, hb⟩; refine ⟨_, rfl, ?_⟩; have z6 := aM (Kd.R_lower ho0 (below_size (qB3 HB zb zd zj))); have z7 := aM (Kd.R_lower ho1 (below_size (qB3 HB zb zd zj))); replace za := bK za hb; replace zc := bK zc hb; replace ze := bK ze hb; replace HB := bS (qB3 HB zb zd zj) hb; (try clear hb); (try clear hk); (try clear hi); (try clear ho0); (try clear ho1); obtain ⟨hcz71_0, hcz71_1, hcz71_2, hfz71_0, hfz71_1, hfz71_2⟩ := blk3 ze.out; obtain ⟨Ao72, co72, eo72⟩ := Kd.R_slice z6.out; subst eo72; obtain ⟨Ao73, co73, eo73⟩ := Kd.R_slice z7.out; subst eo73))
 refine bodyPost_ret (results_ct rfl _ _ zo 44 #[.int .i64 zan, .slice Ao72 zao.length co72, .slice Ao73 zap.length co73] (0, 0) _ rfl (by exact P3 ze) Try.underlying44 rfl (by kernel_rfl)) rfl ?_
 exact ⟨_, _, pE, by (with_reducible repeat (first | apply rA | apply rN | apply rD)); exact F3 z6 ze (fun _ hk => hk.1), by (with_reducible repeat (first | apply rA | apply rN | apply rD)); exact F3 z7 ze (fun _ hk => hk.1), qB3 HB zb zd zj⟩
def view_Whole.f (k : Nat) (l0 : List Int) : Option (Int × List Int × List Int) := (shape_Check.f l0).bind fun zc => (if zc = 0 then ((slices_Clone_int_int.f l0).bind fun zf => ((shape_Steps.f k l0).bind fun zg => (some (0, zf, zg)))) else (some (0, ([] : List Int), ([] : List Int))))
set_option maxHeartbeats 8000000 in
set_option maxRecDepth 100000 in
theorem view_Whole.calls (k : Nat) (A0 : Option Addr) (c0 : Nat) (l0 : List Int) (r1 : Int) (r2 : List Int) (r3 : List Int) (w : World) (hr0 : Kd.C (Kd.int .i64) w A0 l0.length l0) (hc0 : l0.length ≤ c0) (h : view_Whole.f k l0 = some (r1, r2, r3)) :
  Calls Try.prog 35 #[.slice A0 l0.length c0] w fun e w' => ∃ v1_ v2_ : Value, e = .returned (.agg #[.int .i64 r1, v1_, v2_]) ∧ Kd.R (Kd.int .i64) 3 w' w.heap.size (fun k_ => some k_ ≠ (v2_ : Value).ownBlock) v1_ r2 ∧ Kd.R (Kd.int .i64) 3 w' w.heap.size (fun k_ => some k_ ≠ (v1_ : Value).ownBlock) v2_ r3 ∧ Below w.heap.size w w' := by
 have hu44 := Try.underlying44
 have HR0 := aM hr0
 have HC0 := aM hc0
 clear hr0 hc0
 have HB := aM (Below.refl w.heap.size w)
 have H : ((shape_Check.f l0).bind fun zc => (if zc = 0 then ((slices_Clone_int_int.f l0).bind fun zf => ((shape_Steps.f k l0).bind fun zg => (some (0, zf, zg)))) else (some (0, ([] : List Int), ([] : List Int))))) = some (r1, r2, r3) := h
 clear h
 replace H := Option.bind_eq_some_iff.mp H
 obtain ⟨zc, A20, H⟩ := H
 try dsimp only at H
 have A2 := aM A20
 clear A20
 by_cases c3 : zc = 0
 rotate_left
 ·rw [if_neg c3] at H
  have c3b0 : (zc == 0) = false := beq_eq_false_iff_ne.mpr c3
  have c3b1 : (zc != 0) = true := bne_iff_ne.mpr c3
  simp only [Option.some.injEq, Prod.mk.injEq] at H
  obtain ⟨rfl, rfl, rfl⟩ := H
  go_enter Try.func35, Try.ntmps35
  go_wp2_with (first | ((with_reducible refine gate_dst (N := 2) rfl ?_); refine box_event ?hg (N := 2) ?hd (cs := #[.int .i64 0, .slice none 0 0, .slice none 0 0]) (t := 44) ?hr ?_; (case hd => rfl); (case hg => rfl); (case hr => first | (go_simp; done) | (go_simp; rfl)); intro zd hg w12 hbox hb; have za := aM (hbox); have zh := gE (w := w) hg (qB HB); have zb := zh; replace HB := bS (qB HB) hb; clear hb hbox hg) | ((with_reducible refine gate_callee (f := 31) rfl ?_); refine goesL_ (some 4) rfl rfl Try.func31 (by kernel_rfl) rfl #[.slice A0 l0.length c0] rfl pA ?_; (with_reducible refine (shape_Check.calls _ _ l0 zc _ ?s1 ?s2 A2.out).mono ?_); (case s1 => exact sC HR0 HB); (case s2 => exact HC0.out); rintro e w' ⟨rfl, ⟨nd, rfl⟩⟩; refine ⟨_, rfl, ?_⟩; (try (rw [drewN_self w12]; generalize hq_ : World.drewN w12 _ = w12; have n0_ : Aside0 (w12.heap[zd]? = some (.cells #[.int .i64 0, .slice none 0 0, .slice none 0 0] 44 (0, 0))) := ⟨by rw [← hq_]; exact (pK za.out)⟩; have n1_ : Aside0 (Below w.heap.size w w12) := ⟨by rw [← hq_]; exact (qB1 HB zb)⟩; clear za HB hq_; have za := n0_; have HB := n1_; clear n0_ n1_)); obtain ⟨hcz13_0, hcz13_1, hcz13_2, hfz13_0, hfz13_1, hfz13_2⟩ := blk3 za.out))
  refine bodyPost_ret (results_cell_row rfl _ _ zd 44 #[.int .i64 0, .slice none 0 0, .slice none 0 0] (0, 0) _ rfl (by exact P3 za) Try.underlying44 rfl (by kernel_rfl)) rfl ?_
  exact ⟨_, _, pE, pN, pN, qB1 HB zb⟩
 rw [if_pos c3] at H
 have c3b0 : (zc == 0) = true := beq_iff_eq.mpr c3
 have c3b1 : (zc != 0) = false := bne_eq_false_iff_eq.mpr c3
 clear c3
 replace H := Option.bind_eq_some_iff.mp H
 obtain ⟨zf, A40, H⟩ := H
 try dsimp only at H
 have A4 := aM A40
 clear A40
 replace H := Option.bind_eq_some_iff.mp H
 obtain ⟨zg, A50, H⟩ := H
 try dsimp only at H
 have A5 := aM A50
 clear A50
 simp only [Option.some.injEq, Prod.mk.injEq] at H
 obtain ⟨rfl, rfl, rfl⟩ := H
 go_enter Try.func35, Try.ntmps35
 go_wp2_with (first | ((with_reducible refine gate_dst (N := 2) rfl ?_); refine box_event ?hg (N := 2) ?hd (cs := #[.int .i64 0, .slice none 0 0, .slice none 0 0]) (t := 44) ?hr ?_; (case hd => rfl); (case hg => rfl); (case hr => first | (go_simp; done) | (go_simp; rfl)); intro zd hg w6 hbox hb; have za := aM (hbox); have zh := gE (w := w) hg (qB HB); have zb := zh; replace HB := bS (qB HB) hb; clear hb hbox hg) | ((with_reducible refine gate_callee (f := 31) rfl ?_); refine goesL_ (some 4) rfl rfl Try.func31 (by kernel_rfl) rfl #[.slice A0 l0.length c0] rfl pA ?_; (with_reducible refine (shape_Check.calls _ _ l0 zc _ ?s1 ?s2 A2.out).mono ?_); (case s1 => exact sC HR0 HB); (case s2 => exact HC0.out); rintro e w' ⟨rfl, ⟨nd, rfl⟩⟩; refine ⟨_, rfl, ?_⟩; (try (rw [drewN_self w6]; generalize hq_ : World.drewN w6 _ = w6; have n0_ : Aside0 (w6.heap[zd]? = some (.cells #[.int .i64 0, .slice none 0 0, .slice none 0 0] 44 (0, 0))) := ⟨by rw [← hq_]; exact (pK za.out)⟩; have n1_ : Aside0 (Below w.heap.size w w6) := ⟨by rw [← hq_]; exact (qB1 HB zb)⟩; clear za HB hq_; have za := n0_; have HB := n1_; clear n0_ n1_))) | ((with_reducible refine gate_callee (f := 42) rfl ?_); refine goesL_ (some 8) rfl rfl Try.func42 (by kernel_rfl) rfl #[.slice A0 l0.length c0] rfl pA ?_; (with_reducible refine (slices_Clone_int_int.calls _ _ l0 zf _ ?s1 ?s2 A4.out).mono ?_); (case s1 => exact sC HR0 HB); (case s2 => exact HC0.out); rintro e w7 ⟨v321, rfl, ho0, hb⟩; refine ⟨_, rfl, ?_⟩; have ze := aM (Kd.R_lower ho0 (below_size (qB1 HB zb))); replace za := bK za hb; replace HB := bS (qB1 HB zb) hb; (try clear hb); (try clear hk); (try clear hi); (try clear ho0)) | ((with_reducible refine gate_callee (f := 62) rfl ?_); refine goesL_ (some 10) rfl rfl Try.func62 (by kernel_rfl) rfl #[.slice A0 l0.length c0] rfl pA ?_; (with_reducible refine (shape_Steps.calls k _ _ l0 zg _ ?s1 ?s2 A5.out).mono ?_); (case s1 => exact sC HR0 HB); (case s2 => exact HC0.out); rintro e w8 ⟨v324, rfl, ho0, hb⟩; refine ⟨_, rfl, ?_⟩; have zi := aM (Kd.R_lower (Kd.R_new' ho0 (Kd.R_lt (pR ze.out))) (below_size (qB1 HB zb))); replace ze := eR ze ho0 hb; replace za := bK za hb; replace HB := bS (qB1 HB zb) hb; (try clear hb); (try clear hk); (try clear hi); (try clear ho0); obtain ⟨Ao9, co9, eo9⟩ := Kd.R_slice zi.out; subst eo9; obtain ⟨Ao10, co10, eo10⟩ := Kd.R_slice ze.out; subst eo10; obtain ⟨hcz11_0, hcz11_1, hcz11_2, hfz11_0, hfz11_1, hfz11_2⟩ := blk3 za.out))
 refine bodyPost_ret (results_cell_row rfl _ _ zd 44 #[.int .i64 0, .slice Ao10 zf.length co10, .slice Ao9 zg.length co9] (0, 0) _ rfl (by exact P3 za) Try.underlying44 rfl (by kernel_rfl)) rfl ?_
 exact ⟨_, _, pE, by (with_reducible repeat (first | apply rA | apply rN | apply rD)); exact F3 ze za (fun _ hk => hk.1.2), by (with_reducible repeat (first | apply rA | apply rN | apply rD)); exact F3 zi za (fun _ hk => hk.1.2), qB1 HB zb⟩
mutual
def move_Dims.j0 : Nat → Int → List (List Int) → Bool → Int → Int → Int → Int → Int → Int → Int → Int → Bool → List Int → Option (List Int × Int)
 | 0, _, _, _, _, _, _, _, _, _, _, _, _, _ => none
 | k + 1, x0, x2, x31, zl, zm, zn, zo, zp, zq, zr, zs, zt, zu => if x31 = true then (some (([] : List Int), 1)) else (move_Dims.l0 k x0 x2 x2 (x2.length : Int) 0 zl zm zn zo zp zq zr zs zt zu)
def move_Dims.l0 : Nat → Int → List (List Int) → List (List Int) → Int → Int → Int → Int → Int → Int → Int → Int → Int → Int → Bool → List Int → Option (List Int × Int)
 | 0, _, _, _, _, _, _, _, _, _, _, _, _, _, _, _ => none
 | k + 1, x0, x2, x32, x33, x34, zl, zm, zn, zo, zp, zq, zr, zs, zt, zu => if x34 < x33 then (if 0 ≤ x34 then (if x34 < (x32.length : Int) then ((shape_Check.f (rd_L1 x32 x34)).bind fun zz => (if zz = 0 then (move_Dims.l0 k x0 x2 x32 x33 (wrap64 (x34 + 1)) zl zm zn zo zp zq zr zs zt zu) else (some (([] : List Int), zz)))) else (none)) else (none)) else (if x0 = 38 then (if 0 < (x2.length : Int) then ((move_taken.f k (rd_L1 x2 0) zl zm zn zo zp zq zr zs zt zu).bind fun bt331 => (some (bt331.1, bt331.2))) else (none)) else (if x0 = 39 then (if 0 < (x2.length : Int) then ((move_put.f k (rd_L1 x2 0) zl zm zn zo zp zq zr zs zt zu).bind fun bt336 => (some (bt336.1, bt336.2))) else (none)) else (if x0 = 40 then (if 0 < (x2.length : Int) then (if 1 < (x2.length : Int) then ((move_joined.f k (rd_L1 x2 0) (rd_L1 x2 1) zl).bind fun bt342 => (some (bt342.1, bt342.2))) else (none)) else (none)) else (if 0 < (x2.length : Int) then ((view_Whole.f k (rd_L1 x2 0)).bind fun bt347 => ((move_View.f k x0 zl zm zn zo zp zq zr zs zt zu bt347.1 bt347.2.1 bt347.2.2).bind fun bt354 => (some (bt354.2.1, bt354.2.2.2)))) else (none)))))
end
def move_Dims.f (k : Nat) (a0 : Int) (a1_0 : Int) (a1_1 : Int) (a1_2 : Int) (a1_3 : Int) (a1_4 : Int) (a1_5 : Int) (a1_6 : Int) (a1_7 : Int) (a1_8 : Bool) (l1_9 : List Int) (l2 : List (List Int)) : Option (List Int × Int) := (move_Is.f a0).bind fun zak => (if zak = true then (if (l2.length : Int) = 1 then (if a0 = 40 then (move_Dims.j0 k a0 l2 ((l2.length : Int) != 2) a1_0 a1_1 a1_2 a1_3 a1_4 a1_5 a1_6 a1_7 a1_8 l1_9) else (move_Dims.j0 k a0 l2 false a1_0 a1_1 a1_2 a1_3 a1_4 a1_5 a1_6 a1_7 a1_8 l1_9)) else (if a0 = 40 then (move_Dims.j0 k a0 l2 ((l2.length : Int) != 2) a1_0 a1_1 a1_2 a1_3 a1_4 a1_5 a1_6 a1_7 a1_8 l1_9) else (move_Dims.j0 k a0 l2 true a1_0 a1_1 a1_2 a1_3 a1_4 a1_5 a1_6 a1_7 a1_8 l1_9))) else (some (([] : List Int), 14)))
def move_Dims.T14 : Bool × List (List Nat × List Nat) := (true, [([], []), ([0], [0]), ([1], [1]), ([], []), ([2, 3], [2, 3]), ([4], [4]), ([4], [4]), ([5, 4, 0, 1, 2, 3, 4, 5, 6], [5]), ([6, 7, 0, 1, 2, 3, 4, 5, 6, 7], [6])])
def move_Dims.B14 : List Nat := [0, 1, 3, 0, 15, 31, 31, 127, 255]
theorem move_Dims.tab14 : rtab .any (opsOf Try.f10 14) = move_Dims.T14 := by kernel_rfl
theorem move_Dims.bits14 : waitsOk move_Dims.T14.2 move_Dims.B14 = true := by kernel_rfl
def move_Dims.T16 : Bool × List (List Nat × List Nat) := (true, [([], []), ([0], [0]), ([1], [1]), ([], []), ([2, 3], [2, 3]), ([4], [4]), ([4], [4]), ([5, 4, 0, 1, 2, 3, 4, 5, 6], [5]), ([6, 7, 0, 1, 2, 3, 4, 5, 6, 7], [6])])
def move_Dims.B16 : List Nat := [0, 1, 3, 0, 15, 31, 31, 127, 255]
theorem move_Dims.tab16 : rtab .any (opsOf Try.f10 16) = move_Dims.T16 := by kernel_rfl
theorem move_Dims.bits16 : waitsOk move_Dims.T16.2 move_Dims.B16 = true := by kernel_rfl
def move_Dims.T18 : Bool × List (List Nat × List Nat) := (true, [([], []), ([0], [0]), ([1], [1]), ([], []), ([3], [3]), ([4], [4]), ([], []), ([6], [6]), ([2, 5, 7], [2, 5, 7]), ([8], [8]), ([8], [8]), ([9, 8, 0, 1, 2, 3, 4, 5, 6, 7, 8, 9, 10], [9]), ([10, 11, 0, 1, 2, 3, 4, 5, 6, 7, 8, 9, 10, 11], [10])])
def move_Dims.B18 : List Nat := [0, 1, 3, 0, 8, 24, 0, 64, 255, 511, 511, 2047, 4095]
theorem move_Dims.tab18 : rtab .any (opsOf Try.f10 18) = move_Dims.T18 := by kernel_rfl
theorem move_Dims.bits18 : waitsOk move_Dims.T18.2 move_Dims.B18 = true := by kernel_rfl
def move_Dims.T19 : Bool × List (List Nat × List Nat) := (true, [([], []), ([], []), ([], []), ([2], [2]), ([3], [3]), ([4], [4]), ([0, 1, 5, 5], [0, 1, 5]), ([6], [6]), ([7], [7]), ([7], [7]), ([], []), ([10, 8, 6, 0, 1, 2, 3, 4, 5, 6, 7, 8, 10], [8, 10]), ([9, 11, 0, 1, 2, 3, 4, 5, 6, 7, 8, 9, 10, 11], [9])])
def move_Dims.B19 : List Nat := [0, 0, 0, 4, 12, 28, 63, 127, 255, 255, 0, 1535, 4095]
theorem move_Dims.tab19 : rtab .any (opsOf Try.f10 19) = move_Dims.T19 := by kernel_rfl
theorem move_Dims.bits19 : waitsOk move_Dims.T19.2 move_Dims.B19 = true := by kernel_rfl
set_option maxHeartbeats 8000000 in
set_option maxRecDepth 100000 in
theorem move_Dims.calls (k : Nat) (a0 : Int) (a1_0 : Int) (a1_1 : Int) (a1_2 : Int) (a1_3 : Int) (a1_4 : Int) (a1_5 : Int) (a1_6 : Int) (a1_7 : Int) (a1_8 : Bool) (A1_9 : Option Addr) (c1_9 : Nat) (l1_9 : List Int) (A2 : Option Addr) (c2 : Nat) (l2 : List (List Int)) (r1 : List Int) (r2 : Int) (w : World) (hr1_9 : Kd.C (Kd.int .i64) w A1_9 l1_9.length l1_9) (hc1_9 : l1_9.length ≤ c1_9) (hr2 : Kd.C (Kd.slice 3 (Kd.int .i64)) w A2 l2.length l2) (hc2 : l2.length ≤ c2) (h : move_Dims.f k a0 a1_0 a1_1 a1_2 a1_3 a1_4 a1_5 a1_6 a1_7 a1_8 l1_9 l2 = some (r1, r2)) :
  Calls Try.prog 10 #[.int .i64 a0, .agg #[.int .i64 a1_0, .int .i64 a1_1, .int .i64 a1_2, .int .i64 a1_3, .int .i64 a1_4, .int .i64 a1_5, .int .i64 a1_6, .int .i64 a1_7, .bool a1_8, .slice A1_9 l1_9.length c1_9], .slice A2 l2.length c2] w fun e w' => ∃ v0_ : Value, e = .returned (.tuple #[v0_, .int .i64 r2]) ∧ Kd.R (Kd.int .i64) 3 w' w.heap.size (fun _ => True) v0_ r1 ∧ Below w.heap.size w w' := by
 have hu24 := Try.underlying24
 have hu44 := Try.underlying44
 have z6 := aM hr1_9
 have z7 := aM hc1_9
 clear hr1_9 hc1_9
 have HR2 := aM hr2
 have HC2 := aM hc2
 clear hr2 hc2
 have HB := aM (Below.refl w.heap.size w)
 have H : ((move_Is.f a0).bind fun zak => (if zak = true then (if (l2.length : Int) = 1 then (if a0 = 40 then (move_Dims.j0 k a0 l2 ((l2.length : Int) != 2) a1_0 a1_1 a1_2 a1_3 a1_4 a1_5 a1_6 a1_7 a1_8 l1_9) else (move_Dims.j0 k a0 l2 false a1_0 a1_1 a1_2 a1_3 a1_4 a1_5 a1_6 a1_7 a1_8 l1_9)) else (if a0 = 40 then (move_Dims.j0 k a0 l2 ((l2.length : Int) != 2) a1_0 a1_1 a1_2 a1_3 a1_4 a1_5 a1_6 a1_7 a1_8 l1_9) else (move_Dims.j0 k a0 l2 true a1_0 a1_1 a1_2 a1_3 a1_4 a1_5 a1_6 a1_7 a1_8 l1_9))) else (some (([] : List Int), 14)))) = some (r1, r2) := h
 clear h
 replace H := Option.bind_eq_some_iff.mp H
 obtain ⟨zak, A40, H⟩ := H
 try dsimp only at H
 have A4 := aM A40
 clear A40
 by_cases c5 : zak = true
 rotate_left
 ·replace c5 := Bool.eq_false_iff.mpr c5
  subst c5
  rw [if_neg (show ¬ (false = true) by decide)] at H
  simp only [Option.some.injEq, Prod.mk.injEq] at H
  obtain ⟨rfl, rfl⟩ := H
  go_enter Try.func10, Try.ntmps10
  go_wp2_with (first | ((with_reducible refine gate_dst (N := 4) rfl ?_); (try (refine gate_guard (by rfl) ?_; dsimp only)); refine box_event ?hg (N := 4) ?hd (cs := #[.int .i64 a1_0, .int .i64 a1_1, .int .i64 a1_2, .int .i64 a1_3, .int .i64 a1_4, .int .i64 a1_5, .int .i64 a1_6, .int .i64 a1_7, .bool a1_8, .slice A1_9 l1_9.length c1_9]) (t := 24) ?hr ?_; (case hd => rfl); (case hg => rfl); (case hr => first | (go_simp; done) | (go_simp; rfl)); intro zc hg w50 hbox hb; have za := aM (hbox); have zal := gE (w := w) hg (qB HB); have ze := zal; replace HB := bS (qB HB) hb; clear hb hbox hg) | ((with_reducible refine gate_callee (f := 13) rfl ?_); refine goesL_ (some 14) rfl rfl Try.func13 (by kernel_rfl) rfl #[.int .i64 a0] rfl pA ?_; (with_reducible refine (move_Is.calls a0 false _ A4.out).mono ?_); rintro e w' ⟨rfl, ⟨nd, rfl⟩⟩; refine ⟨_, rfl, ?_⟩))
  go_ret2
  exact ⟨_, pE, pN, qB1 HB ze⟩
 subst c5
 rw [if_pos rfl] at H
 have HC6 := aM H
 clear H
 go_enter Try.func10, Try.ntmps10
 go_upto_region 3 with (first | ((with_reducible refine gate_dst (N := 4) rfl ?_); (try (refine gate_guard (by rfl) ?_; dsimp only)); refine box_event ?hg (N := 4) ?hd (cs := #[.int .i64 a1_0, .int .i64 a1_1, .int .i64 a1_2, .int .i64 a1_3, .int .i64 a1_4, .int .i64 a1_5, .int .i64 a1_6, .int .i64 a1_7, .bool a1_8, .slice A1_9 l1_9.length c1_9]) (t := 24) ?hr ?_; (case hd => rfl); (case hg => rfl); (case hr => first | (go_simp; done) | (go_simp; rfl)); intro zc hg w7 hbox hb; have za := aM (hbox); have zal := gE (w := w) hg (qB HB); have ze := zal; replace HB := bS (qB HB) hb; clear hb hbox hg) | ((with_reducible refine gate_callee (f := 13) rfl ?_); refine goesL_ (some 14) rfl rfl Try.func13 (by kernel_rfl) rfl #[.int .i64 a0] rfl pA ?_; (with_reducible refine (move_Is.calls a0 true _ A4.out).mono ?_); rintro e w' ⟨rfl, ⟨nd, rfl⟩⟩; refine ⟨_, rfl, ?_⟩))
 (try simp only [Act.put, sP])
 go_cut [31] (fun v31 wc => ∃ (kq : Nat) (x31_5 : Bool), v31 = .bool x31_5 ∧ Aside0 (move_Dims.j0 kq a0 l2 x31_5 a1_0 a1_1 a1_2 a1_3 a1_4 a1_5 a1_6 a1_7 a1_8 l1_9 = some (r1, r2)) ∧ Aside0 (kq ≤ k) ∧ Aside0 (wc.heap[zc]? = some (.cells #[.int .i64 a1_0, .int .i64 a1_1, .int .i64 a1_2, .int .i64 a1_3, .int .i64 a1_4, .int .i64 a1_5, .int .i64 a1_6, .int .i64 a1_7, .bool a1_8, (.slice A1_9 l1_9.length c1_9)] 24 (0, 0))) ∧ Aside0 (Below w.heap.size w wc))
 case first =>
  have H := HC6.out
  clear HC6
  by_cases c8 : (l2.length : Int) = 1
  rotate_left
  ·rw [if_neg c8] at H
   have zam : ((l2.length : Int) == 1) = false := beq_eq_false_iff_ne.mpr c8
   have c8b1 : ((l2.length : Int) != 1) = true := bne_iff_ne.mpr c8
   (first | rw [zam] | (simp only [i64_w, i32_w]; rw [zam]) | skip)
   by_cases c10 : a0 = 40
   rotate_left
   ·rw [if_neg c10] at H
    have c10b0 : (a0 == 40) = false := beq_eq_false_iff_ne.mpr c10
    have c10b1 : (a0 != 40) = true := bne_iff_ne.mpr c10
    have H' := aM H
    clear H
    go_wp2
    go_meet
    case rel => exact ⟨_, (true), (pF), H', ⟨by first | omega | exact Nat.le_refl _⟩, ⟨pK za.out⟩, ⟨qB1 HB ze⟩⟩
   rw [if_pos c10] at H
   have c10b0 : (a0 == 40) = true := beq_iff_eq.mpr c10
   have c10b1 : (a0 != 40) = false := bne_eq_false_iff_eq.mpr c10
   clear c10
   have H' := aM H
   clear H
   go_wp2
   go_meet
   case rel => exact ⟨_, (((l2.length : Int) != 2)), (pF), H', ⟨by first | omega | exact Nat.le_refl _⟩, ⟨pK za.out⟩, ⟨qB1 HB ze⟩⟩
  rw [if_pos c8] at H
  have zam : ((l2.length : Int) == 1) = true := beq_iff_eq.mpr c8
  have c8b1 : ((l2.length : Int) != 1) = false := bne_eq_false_iff_eq.mpr c8
  clear c8
  (first | rw [zam] | (simp only [i64_w, i32_w]; rw [zam]) | skip)
  by_cases c9 : a0 = 40
  rotate_left
  ·rw [if_neg c9] at H
   have c9b0 : (a0 == 40) = false := beq_eq_false_iff_ne.mpr c9
   have c9b1 : (a0 != 40) = true := bne_iff_ne.mpr c9
   have H' := aM H
   clear H
   go_wp2
   go_meet
   case rel => exact ⟨_, (false), (pF), H', ⟨by first | omega | exact Nat.le_refl _⟩, ⟨pK za.out⟩, ⟨qB1 HB ze⟩⟩
  rw [if_pos c9] at H
  have c9b0 : (a0 == 40) = true := beq_iff_eq.mpr c9
  have c9b1 : (a0 != 40) = false := bne_eq_false_iff_eq.mpr c9
  clear c9
  have H' := aM H
  clear H
  go_wp2
  go_meet
  case rel => exact ⟨_, (((l2.length : Int) != 2)), (pF), H', ⟨by first | omega | exact Nat.le_refl _⟩, ⟨pK za.out⟩, ⟨qB1 HB ze⟩⟩
 case rest =>
  clear HC6
  try clear c2
  try clear c5
  obtain ⟨kq, x31_5, rfl, HA, HJ5, za, HB⟩ := hcut
  cases kq with
  | zero => exact absurd HA.out (by simp [move_Dims.j0])
  | succ kj5 =>
   have H := HA.out
   clear HA
   simp only [move_Dims.j0] at H
   by_cases c11 : x31_5 = true
   ·subst c11
    rw [if_pos rfl] at H
    simp only [Option.some.injEq, Prod.mk.injEq] at H
    obtain ⟨rfl, rfl⟩ := H
    go_wp2
    go_ret2
    exact ⟨_, pE, pN, qB1 HB ze⟩
   replace c11 := Bool.eq_false_iff.mpr c11
   subst c11
   rw [if_neg (show ¬ (false = true) by decide)] at H
   have H' := aM H
   clear H
   go_wp2
   go_loopg [34] kj5 (fun kq v34 w' => ∃ (x34_2 : Int), v34 = .int .i64 x34_2 ∧ Aside0 (move_Dims.l0 kq a0 l2 l2 (l2.length : Int) x34_2 a1_0 a1_1 a1_2 a1_3 a1_4 a1_5 a1_6 a1_7 a1_8 l1_9 = some (r1, r2)) ∧ Aside0 (kq ≤ kj5) ∧ Aside0 (w'.heap[zc]? = some (.cells #[.int .i64 a1_0, .int .i64 a1_1, .int .i64 a1_2, .int .i64 a1_3, .int .i64 a1_4, .int .i64 a1_5, .int .i64 a1_6, .int .i64 a1_7, .bool a1_8, (.slice A1_9 l1_9.length c1_9)] 24 (0, 0))) ∧ Aside0 (Below w.heap.size w w'))
   case atStart => exact ⟨(0), (pF), H', ⟨Nat.le_refl _⟩, ⟨pK za.out⟩, ⟨qB1 HB ze⟩⟩
   case round =>
    clear H'
    try clear c11
    obtain ⟨x34_2, rfl, HA, HK2, za, HB⟩ := hrel
    cases gk with
    | zero => exact absurd HA.out (by simp [move_Dims.l0])
    | succ k2 =>
     have H := HA.out
     clear HA
     simp only [move_Dims.l0] at H
     by_cases c12 : x34_2 < (l2.length : Int)
     ·rw [if_pos c12] at H
      have c12b0 : decide (x34_2 < (l2.length : Int)) = true := decide_eq_true c12
      clear c12
      by_cases c13 : 0 ≤ x34_2
      rotate_left
      ·rw [if_neg c13] at H
       exact absurd H (by simp)
      rw [if_pos c13] at H
      have c13b0 : decide (0 ≤ x34_2) = true := decide_eq_true c13
      clear c13
      by_cases c14 : x34_2 < (l2.length : Int)
      rotate_left
      ·rw [if_neg c14] at H
       exact absurd H (by simp)
      rw [if_pos c14] at H
      have c14b0 : decide (x34_2 < (l2.length : Int)) = true := decide_eq_true c14
      clear c14
      replace H := Option.bind_eq_some_iff.mp H
      obtain ⟨zz, zas, H⟩ := H
      try dsimp only at H
      have A15 := aM zas
      clear zas
      by_cases c16 : zz = 0
      rotate_left
      ·rw [if_neg c16] at H
       have c16b0 : (zz == 0) = false := beq_eq_false_iff_ne.mpr c16
       have c16b1 : (zz != 0) = true := bne_iff_ne.mpr c16
       simp only [Option.some.injEq, Prod.mk.injEq] at H
       obtain ⟨rfl, rfl⟩ := H
       have p328 : 0 ≤ (x34_2 : Int) := of_decide_eq_true pD
       have q328 : x34_2 < (l2.length : Int) := of_decide_eq_true pD
       obtain ⟨ad328, A328_0, c328_0, e328, hx328_0, hl328_0, hi328_0⟩ := at_L1 HR2.out x34_2 p328 q328
       cases e328
       replace hx328_0 := (HB.out.cell (World.block_lt_of_cell? w _ hx328_0)).trans hx328_0
       have z2 := aM hi328_0
       have z3 := aM hl328_0
       clear hi328_0 hl328_0
       replace p328 := eq_true p328
       replace q328 := eq_true q328
       go_wp2_with (first | ((with_reducible refine gate_callee (f := 31) rfl ?_); refine goesL_ (some 39) rfl rfl Try.func31 (by kernel_rfl) rfl #[.slice A328_0 (rd_L1 l2 x34_2).length c328_0] rfl pA ?_; (with_reducible refine (shape_Check.calls _ _ (rd_L1 l2 x34_2) zz _ ?s1 ?s2 A15.out).mono ?_); (case s1 => exact sC z2 HB); (case s2 => exact z3.out); rintro e w' ⟨rfl, ⟨nd, rfl⟩⟩; refine ⟨_, rfl, ?_⟩))
       go_ret2
       exact ⟨_, pE, pN, qB1 HB ze⟩
      rw [if_pos c16] at H
      have c16b0 : (zz == 0) = true := beq_iff_eq.mpr c16
      have c16b1 : (zz != 0) = false := bne_eq_false_iff_eq.mpr c16
      clear c16
      have H' := aM H
      clear H
      have p328 : 0 ≤ (x34_2 : Int) := of_decide_eq_true pD
      have q328 : x34_2 < (l2.length : Int) := of_decide_eq_true pD
      obtain ⟨ad328, A328_0, c328_0, e328, hx328_0, hl328_0, hi328_0⟩ := at_L1 HR2.out x34_2 p328 q328
      cases e328
      replace hx328_0 := (HB.out.cell (World.block_lt_of_cell? w _ hx328_0)).trans hx328_0
      have z2 := aM hi328_0
      have z3 := aM hl328_0
      clear hi328_0 hl328_0
      replace p328 := eq_true p328
      replace q328 := eq_true q328
      go_wp2_with (first | ((with_reducible refine gate_callee (f := 31) rfl ?_); refine goesL_ (some 39) rfl rfl Try.func31 (by kernel_rfl) rfl #[.slice A328_0 (rd_L1 l2 x34_2).length c328_0] rfl pA ?_; (with_reducible refine (shape_Check.calls _ _ (rd_L1 l2 x34_2) zz _ ?s1 ?s2 A15.out).mono ?_); (case s1 => exact sC z2 HB); (case s2 => exact z3.out); rintro e w' ⟨rfl, ⟨nd, rfl⟩⟩; refine ⟨_, rfl, ?_⟩))
      go_roundg k2
      case measure => have := HJ5.out; have := HK2.out; omega
      case rel => exact ⟨(wrap64 (x34_2 + 1)), (pF), H', ⟨by have := HJ5.out; have := HK2.out; omega⟩, ⟨pK za.out⟩, ⟨qB1 HB ze⟩⟩
     rw [if_neg c12] at H
     have c12b0 : decide (x34_2 < (l2.length : Int)) = false := decide_eq_false c12
     clear c12
     by_cases c17 : a0 = 38
     ·rw [if_pos c17] at H
      have c17b0 : (a0 == 38) = true := beq_iff_eq.mpr c17
      have c17b1 : (a0 != 38) = false := bne_eq_false_iff_eq.mpr c17
      clear c17
      by_cases c18 : 0 < (l2.length : Int)
      rotate_left
      ·rw [if_neg c18] at H
       exact absurd H (by simp)
      rw [if_pos c18] at H
      have c18b0 : decide (0 < (l2.length : Int)) = true := decide_eq_true c18
      have c18b1 : decide (0 < l2.length) = true := decide_eq_true (by omega)
      clear c18
      replace H := Option.bind_eq_some_iff.mp H
      obtain ⟨⟨t331, t334⟩, zat, H⟩ := H
      try dsimp only at H
      have A19 := aM zat
      clear zat
      simp only [Option.some.injEq, Prod.mk.injEq] at H
      obtain ⟨rfl, rfl⟩ := H
      try go_wp2
      replace za := aM (blk_drew za.out)
      replace HB := aM (below_drew1 HB.out)
      have p330 : 0 ≤ (0 : Int) := (by omega)
      have q330 : 0 < (l2.length : Int) := of_decide_eq_true pD
      obtain ⟨ad330, A330_0, c330_0, e330, hx330_0, hl330_0, hi330_0⟩ := at_L1 HR2.out 0 p330 q330
      have hw330_0 := hx330_0
      (try rw [show ((0 : Int)).toNat = 0 from rfl] at hw330_0)
      (try rw [show 0 * 1 = 0 from rfl] at hw330_0)
      (try rw [Addr.add_zero'] at hw330_0)
      cases e330
      have qi330 : (0 < l2.length) = True := eq_true (by omega)
      (try rw [show ((0 : Int)).toNat = 0 from rfl] at hx330_0)
      (try rw [Addr.add_zero'] at hx330_0)
      replace hx330_0 := (HB.out.cell (World.block_lt_of_cell? w _ hx330_0)).trans hx330_0
      have zab := aM hi330_0
      have HC330_0 := aM hl330_0
      clear hi330_0 hl330_0
      replace p330 := eq_true p330
      replace q330 := eq_true q330
      refine start_ (n := 9) (S := fun w' => w'.cell? ⟨zc, 0, none⟩ = some (.int .i64 a1_0) ∧ w'.cell? ⟨zc, 1, none⟩ = some (.int .i64 a1_1) ∧ w'.cell? ⟨zc, 2, none⟩ = some (.int .i64 a1_2) ∧ w'.cell? ⟨zc, 3, none⟩ = some (.int .i64 a1_3) ∧ w'.cell? ⟨zc, 4, none⟩ = some (.int .i64 a1_4) ∧ w'.cell? ⟨zc, 5, none⟩ = some (.int .i64 a1_5) ∧ w'.cell? ⟨zc, 6, none⟩ = some (.int .i64 a1_6) ∧ w'.cell? ⟨zc, 7, none⟩ = some (.int .i64 a1_7) ∧ w'.cell? ⟨zc, 8, none⟩ = some (.bool a1_8) ∧ w'.cell? ⟨zc, 9, none⟩ = some (.slice A1_9 l1_9.length c1_9) ∧ w'.cell? ad330 = some (.slice A330_0 (rd_L1 l2 0).length c330_0)) (ds := []) (bm 9 0) (by kernel_rfl) rfl rfl ⟨(blk_cell za.out 0).trans rfl, (blk_cell za.out 1).trans rfl, (blk_cell za.out 2).trans rfl, (blk_cell za.out 3).trans rfl, (blk_cell za.out 4).trans rfl, (blk_cell za.out 5).trans rfl, (blk_cell za.out 6).trans rfl, (blk_cell za.out 7).trans rfl, (blk_cell za.out 8).trans rfl, (blk_cell za.out 9).trans rfl, ((HB.out.cell (World.block_lt_of_cell? w _ hw330_0)).trans hw330_0)⟩ (fun hHeld => ?_); refine with_tabW move_Dims.tab14 move_Dims.bits14 (fun HT_ HW_ => ?_)
      generalize wr.drew = w20 at za HB zab hx330_0 hHeld ⊢
      refine pP (i := 0) (N := some 47) (bm 9 1) rfl rfl HT_.out ?_
      refine pP (i := 1) (N := some 48) (bm 9 3) rfl rfl HT_.out ?_
      refine pT (i := 2) (N := some 49) (bm 9 7) rfl rfl HT_.out HW_.out hHeld (by rintro w' ⟨s0, s1, s2, s3, s4, s5, s6, s7, s8, s9, s10⟩; go_simp; with_reducible rfl) ?_
      refine pT (i := 3) (N := some 50) (bm 9 15) rfl rfl HT_.out HW_.out hHeld (by rintro w' ⟨s0, s1, s2, s3, s4, s5, s6, s7, s8, s9, s10⟩; go_simp; with_reducible rfl) ?_
      refine one_ (i := 4) (N := some 51) (bm 9 31) rfl rfl (one_of HT_.out (by kernel_rfl)) (by decide) (fun K hK => ?_)
      refine goes_ Try.func32 (by kernel_rfl) rfl #[.slice A330_0 (rd_L1 l2 0).length c330_0, .agg #[.int .i64 a1_0, .int .i64 a1_1, .int .i64 a1_2, .int .i64 a1_3, .int .i64 a1_4, .int .i64 a1_5, .int .i64 a1_6, .int .i64 a1_7, .bool a1_8, .slice A1_9 l1_9.length c1_9]] (by rfl) rfl rfl pA ?_
      with_reducible refine (move_taken.calls k2 _ _ (rd_L1 l2 0) a1_0 a1_1 a1_2 a1_3 a1_4 a1_5 a1_6 a1_7 a1_8 _ _ l1_9 t331 t334 _ ?s1 ?s2 ?s3 ?s4 A19.out).mono ?_
      (case s1 => exact sC zab HB)
      (case s2 => exact HC330_0.out)
      (case s3 => exact sC z6 HB)
      (case s4 => exact z7.out)
      rintro e w21 ⟨v332, rfl, ho0, hb⟩
      refine ⟨_, rfl, ?_⟩
      have HO333 := aM (Kd.R_lower ho0 (below_size (qB1 HB ze)))
      replace za := bK za hb
      replace HB := bS (qB1 HB ze) hb
      (try clear hb)
      (try clear ho0)
      refine hK.out _ _ ⟨(blk_cell za.out 0).trans rfl, (blk_cell za.out 1).trans rfl, (blk_cell za.out 2).trans rfl, (blk_cell za.out 3).trans rfl, (blk_cell za.out 4).trans rfl, (blk_cell za.out 5).trans rfl, (blk_cell za.out 6).trans rfl, (blk_cell za.out 7).trans rfl, (blk_cell za.out 8).trans rfl, (blk_cell za.out 9).trans rfl, ((HB.out.cell (World.block_lt_of_cell? w _ hw330_0)).trans hw330_0)⟩ (fun hHeld => ?_)
      clear hK K
      refine norm_ (a' := ?_) ?_ ?_
      rotate_left
      ·show Act.put _ (some 51) _ = _
       simp only [Act.put, sP, i64_w, i32_w]
       rfl
      refine pP (i := 5) (N := some 52) (bm 9 63) rfl rfl HT_.out ?_
      refine pP (i := 6) (N := some 53) (bm 9 127) rfl rfl HT_.out ?_
      refine pP (i := 7) (N := some 6) (bm 9 255) rfl rfl HT_.out ?_
      refine pP (i := 8) (N := some 7) (bm 9 511) rfl rfl HT_.out ?_
      refine done_ (done_of HT_.out (by kernel_rfl)) ?_
      try go_wp2
      go_ret2
      exact ⟨_, pE, pR HO333.out, qB1 HB ze⟩
     rw [if_neg c17] at H
     have c17b0 : (a0 == 38) = false := beq_eq_false_iff_ne.mpr c17
     have c17b1 : (a0 != 38) = true := bne_iff_ne.mpr c17
     by_cases c22 : a0 = 39
     ·rw [if_pos c22] at H
      have c22b0 : (a0 == 39) = true := beq_iff_eq.mpr c22
      have c22b1 : (a0 != 39) = false := bne_eq_false_iff_eq.mpr c22
      clear c22
      by_cases c23 : 0 < (l2.length : Int)
      rotate_left
      ·rw [if_neg c23] at H
       exact absurd H (by simp)
      rw [if_pos c23] at H
      have c23b0 : decide (0 < (l2.length : Int)) = true := decide_eq_true c23
      have c23b1 : decide (0 < l2.length) = true := decide_eq_true (by omega)
      clear c23
      replace H := Option.bind_eq_some_iff.mp H
      obtain ⟨⟨t336, t339⟩, zau, H⟩ := H
      try dsimp only at H
      have A24 := aM zau
      clear zau
      simp only [Option.some.injEq, Prod.mk.injEq] at H
      obtain ⟨rfl, rfl⟩ := H
      try go_wp2
      replace za := aM (blk_drew za.out)
      replace HB := aM (below_drew1 HB.out)
      have p335 : 0 ≤ (0 : Int) := (by omega)
      have q335 : 0 < (l2.length : Int) := of_decide_eq_true pD
      obtain ⟨ad335, A335_0, c335_0, e335, hx335_0, hl335_0, hi335_0⟩ := at_L1 HR2.out 0 p335 q335
      have hw335_0 := hx335_0
      (try rw [show ((0 : Int)).toNat = 0 from rfl] at hw335_0)
      (try rw [show 0 * 1 = 0 from rfl] at hw335_0)
      (try rw [Addr.add_zero'] at hw335_0)
      cases e335
      have qi335 : (0 < l2.length) = True := eq_true (by omega)
      (try rw [show ((0 : Int)).toNat = 0 from rfl] at hx335_0)
      (try rw [Addr.add_zero'] at hx335_0)
      replace hx335_0 := (HB.out.cell (World.block_lt_of_cell? w _ hx335_0)).trans hx335_0
      have zac := aM hi335_0
      have HC335_0 := aM hl335_0
      clear hi335_0 hl335_0
      replace p335 := eq_true p335
      replace q335 := eq_true q335
      refine start_ (n := 9) (S := fun w' => w'.cell? ⟨zc, 0, none⟩ = some (.int .i64 a1_0) ∧ w'.cell? ⟨zc, 1, none⟩ = some (.int .i64 a1_1) ∧ w'.cell? ⟨zc, 2, none⟩ = some (.int .i64 a1_2) ∧ w'.cell? ⟨zc, 3, none⟩ = some (.int .i64 a1_3) ∧ w'.cell? ⟨zc, 4, none⟩ = some (.int .i64 a1_4) ∧ w'.cell? ⟨zc, 5, none⟩ = some (.int .i64 a1_5) ∧ w'.cell? ⟨zc, 6, none⟩ = some (.int .i64 a1_6) ∧ w'.cell? ⟨zc, 7, none⟩ = some (.int .i64 a1_7) ∧ w'.cell? ⟨zc, 8, none⟩ = some (.bool a1_8) ∧ w'.cell? ⟨zc, 9, none⟩ = some (.slice A1_9 l1_9.length c1_9) ∧ w'.cell? ad335 = some (.slice A335_0 (rd_L1 l2 0).length c335_0)) (ds := []) (bm 9 0) (by kernel_rfl) rfl rfl ⟨(blk_cell za.out 0).trans rfl, (blk_cell za.out 1).trans rfl, (blk_cell za.out 2).trans rfl, (blk_cell za.out 3).trans rfl, (blk_cell za.out 4).trans rfl, (blk_cell za.out 5).trans rfl, (blk_cell za.out 6).trans rfl, (blk_cell za.out 7).trans rfl, (blk_cell za.out 8).trans rfl, (blk_cell za.out 9).trans rfl, ((HB.out.cell (World.block_lt_of_cell? w _ hw335_0)).trans hw335_0)⟩ (fun hHeld => ?_); refine with_tabW move_Dims.tab16 move_Dims.bits16 (fun HT_ HW_ => ?_)
      generalize wr.drew = w25 at za HB zac hx335_0 hHeld ⊢
      refine pP (i := 0) (N := some 56) (bm 9 1) rfl rfl HT_.out ?_
      refine pP (i := 1) (N := some 57) (bm 9 3) rfl rfl HT_.out ?_
      refine pT (i := 2) (N := some 58) (bm 9 7) rfl rfl HT_.out HW_.out hHeld (by rintro w' ⟨s0, s1, s2, s3, s4, s5, s6, s7, s8, s9, s10⟩; go_simp; with_reducible rfl) ?_
      refine pT (i := 3) (N := some 59) (bm 9 15) rfl rfl HT_.out HW_.out hHeld (by rintro w' ⟨s0, s1, s2, s3, s4, s5, s6, s7, s8, s9, s10⟩; go_simp; with_reducible rfl) ?_
      refine one_ (i := 4) (N := some 60) (bm 9 31) rfl rfl (one_of HT_.out (by kernel_rfl)) (by decide) (fun K hK => ?_)
      refine goes_ Try.func33 (by kernel_rfl) rfl #[.slice A335_0 (rd_L1 l2 0).length c335_0, .agg #[.int .i64 a1_0, .int .i64 a1_1, .int .i64 a1_2, .int .i64 a1_3, .int .i64 a1_4, .int .i64 a1_5, .int .i64 a1_6, .int .i64 a1_7, .bool a1_8, .slice A1_9 l1_9.length c1_9]] (by rfl) rfl rfl pA ?_
      with_reducible refine (move_put.calls k2 _ _ (rd_L1 l2 0) a1_0 a1_1 a1_2 a1_3 a1_4 a1_5 a1_6 a1_7 a1_8 _ _ l1_9 t336 t339 _ ?s1 ?s2 ?s3 ?s4 A24.out).mono ?_
      (case s1 => exact sC zac HB)
      (case s2 => exact HC335_0.out)
      (case s3 => exact sC z6 HB)
      (case s4 => exact z7.out)
      rintro e w26 ⟨v337, rfl, ho0, hb⟩
      refine ⟨_, rfl, ?_⟩
      have HO338 := aM (Kd.R_lower ho0 (below_size (qB1 HB ze)))
      replace za := bK za hb
      replace HB := bS (qB1 HB ze) hb
      (try clear hb)
      (try clear ho0)
      refine hK.out _ _ ⟨(blk_cell za.out 0).trans rfl, (blk_cell za.out 1).trans rfl, (blk_cell za.out 2).trans rfl, (blk_cell za.out 3).trans rfl, (blk_cell za.out 4).trans rfl, (blk_cell za.out 5).trans rfl, (blk_cell za.out 6).trans rfl, (blk_cell za.out 7).trans rfl, (blk_cell za.out 8).trans rfl, (blk_cell za.out 9).trans rfl, ((HB.out.cell (World.block_lt_of_cell? w _ hw335_0)).trans hw335_0)⟩ (fun hHeld => ?_)
      clear hK K
      refine norm_ (a' := ?_) ?_ ?_
      rotate_left
      ·show Act.put _ (some 60) _ = _
       simp only [Act.put, sP, i64_w, i32_w]
       rfl
      refine pP (i := 5) (N := some 61) (bm 9 63) rfl rfl HT_.out ?_
      refine pP (i := 6) (N := some 62) (bm 9 127) rfl rfl HT_.out ?_
      refine pP (i := 7) (N := some 6) (bm 9 255) rfl rfl HT_.out ?_
      refine pP (i := 8) (N := some 7) (bm 9 511) rfl rfl HT_.out ?_
      refine done_ (done_of HT_.out (by kernel_rfl)) ?_
      try go_wp2
      go_ret2
      exact ⟨_, pE, pR HO338.out, qB1 HB ze⟩
     rw [if_neg c22] at H
     have c22b0 : (a0 == 39) = false := beq_eq_false_iff_ne.mpr c22
     have c22b1 : (a0 != 39) = true := bne_iff_ne.mpr c22
     by_cases c27 : a0 = 40
     ·rw [if_pos c27] at H
      have c27b0 : (a0 == 40) = true := beq_iff_eq.mpr c27
      have c27b1 : (a0 != 40) = false := bne_eq_false_iff_eq.mpr c27
      clear c27
      by_cases c28 : 0 < (l2.length : Int)
      rotate_left
      ·rw [if_neg c28] at H
       exact absurd H (by simp)
      rw [if_pos c28] at H
      have c28b0 : decide (0 < (l2.length : Int)) = true := decide_eq_true c28
      have c28b1 : decide (0 < l2.length) = true := decide_eq_true (by omega)
      clear c28
      by_cases c29 : 1 < (l2.length : Int)
      rotate_left
      ·rw [if_neg c29] at H
       exact absurd H (by simp)
      rw [if_pos c29] at H
      have c29b0 : decide (1 < (l2.length : Int)) = true := decide_eq_true c29
      have c29b1 : decide (1 < l2.length) = true := decide_eq_true (by omega)
      clear c29
      replace H := Option.bind_eq_some_iff.mp H
      obtain ⟨⟨t342, t343⟩, zav, H⟩ := H
      try dsimp only at H
      have A30 := aM zav
      clear zav
      simp only [Option.some.injEq, Prod.mk.injEq] at H
      obtain ⟨rfl, rfl⟩ := H
      try go_wp2
      replace za := aM (blk_drew za.out)
      replace HB := aM (below_drew1 HB.out)
      have p340 : 0 ≤ (0 : Int) := (by omega)
      have q340 : 0 < (l2.length : Int) := of_decide_eq_true pD
      obtain ⟨ad340, A340_0, c340_0, e340, hx340_0, hl340_0, hi340_0⟩ := at_L1 HR2.out 0 p340 q340
      have hw340_0 := hx340_0
      (try rw [show ((0 : Int)).toNat = 0 from rfl] at hw340_0)
      (try rw [show 0 * 1 = 0 from rfl] at hw340_0)
      (try rw [Addr.add_zero'] at hw340_0)
      cases e340
      have qi340 : (0 < l2.length) = True := eq_true (by omega)
      (try rw [show ((0 : Int)).toNat = 0 from rfl] at hx340_0)
      (try rw [Addr.add_zero'] at hx340_0)
      replace hx340_0 := (HB.out.cell (World.block_lt_of_cell? w _ hx340_0)).trans hx340_0
      have zad := aM hi340_0
      have HC340_0 := aM hl340_0
      clear hi340_0 hl340_0
      replace p340 := eq_true p340
      replace q340 := eq_true q340
      have p341 : 0 ≤ (1 : Int) := (by omega)
      have q341 : 1 < (l2.length : Int) := of_decide_eq_true pD
      obtain ⟨ad341, A341_0, c341_0, e341, hx341_0, hl341_0, hi341_0⟩ := at_L1 HR2.out 1 p341 q341
      have hw341_0 := hx341_0
      (try rw [show ((1 : Int)).toNat = 1 from rfl] at hw341_0)
      (try rw [show 1 * 1 = 1 from rfl] at hw341_0)
      (try simp only [Nat.reduceMul, Nat.reduceEqDiff, Go.Addr.add, ↓reduceIte] at hw341_0)
      obtain rfl : ad340 = ad341 := (by injection e341)
      (try simp only [show (1 : Int).toNat = 1 from rfl, Nat.reduceMul, Nat.reduceEqDiff, Go.Addr.add, ↓reduceIte] at hx341_0)
      have qi341 : (1 < l2.length) = True := eq_true (by omega)
      (try rw [show ((1 : Int)).toNat = 1 from rfl] at hx341_0)
      replace hx341_0 := (HB.out.cell (World.block_lt_of_cell? w _ hx341_0)).trans hx341_0
      have zae := aM hi341_0
      have HC341_0 := aM hl341_0
      clear hi341_0 hl341_0
      replace p341 := eq_true p341
      replace q341 := eq_true q341
      refine start_ (n := 13) (S := fun w' => w'.cell? ⟨zc, 0, none⟩ = some (.int .i64 a1_0) ∧ w'.cell? ⟨zc, 1, none⟩ = some (.int .i64 a1_1) ∧ w'.cell? ⟨zc, 2, none⟩ = some (.int .i64 a1_2) ∧ w'.cell? ⟨zc, 3, none⟩ = some (.int .i64 a1_3) ∧ w'.cell? ⟨zc, 4, none⟩ = some (.int .i64 a1_4) ∧ w'.cell? ⟨zc, 5, none⟩ = some (.int .i64 a1_5) ∧ w'.cell? ⟨zc, 6, none⟩ = some (.int .i64 a1_6) ∧ w'.cell? ⟨zc, 7, none⟩ = some (.int .i64 a1_7) ∧ w'.cell? ⟨zc, 8, none⟩ = some (.bool a1_8) ∧ w'.cell? ⟨zc, 9, none⟩ = some (.slice A1_9 l1_9.length c1_9) ∧ w'.cell? ad340 = some (.slice A340_0 (rd_L1 l2 0).length c340_0) ∧ w'.cell? ⟨ad340.block, ad340.off + 1, none⟩ = some (.slice A341_0 (rd_L1 l2 1).length c341_0)) (ds := []) (bm 13 0) (by kernel_rfl) rfl rfl ⟨(blk_cell za.out 0).trans rfl, (blk_cell za.out 1).trans rfl, (blk_cell za.out 2).trans rfl, (blk_cell za.out 3).trans rfl, (blk_cell za.out 4).trans rfl, (blk_cell za.out 5).trans rfl, (blk_cell za.out 6).trans rfl, (blk_cell za.out 7).trans rfl, (blk_cell za.out 8).trans rfl, (blk_cell za.out 9).trans rfl, ((HB.out.cell (World.block_lt_of_cell? w _ hw340_0)).trans hw340_0), ((HB.out.cell (World.block_lt_of_cell? w _ hw341_0)).trans hw341_0)⟩ (fun hHeld => ?_); refine with_tabW move_Dims.tab18 move_Dims.bits18 (fun HT_ HW_ => ?_)
      generalize wr.drew = w31 at za HB zad zae hx340_0 hx341_0 hHeld ⊢
      refine pP (i := 0) (N := some 65) (bm 13 1) rfl rfl HT_.out ?_
      refine pP (i := 1) (N := some 66) (bm 13 3) rfl rfl HT_.out ?_
      refine pP (i := 3) (N := some 68) (bm 13 11) rfl rfl HT_.out ?_
      refine pP (i := 4) (N := some 69) (bm 13 27) rfl rfl HT_.out ?_
      refine pP (i := 6) (N := some 71) (bm 13 91) rfl rfl HT_.out ?_
      refine pT (i := 2) (N := some 67) (bm 13 95) rfl rfl HT_.out HW_.out hHeld (by rintro w' ⟨s0, s1, s2, s3, s4, s5, s6, s7, s8, s9, s10, s11⟩; go_simp; with_reducible rfl) ?_
      refine pT (i := 5) (N := some 70) (bm 13 127) rfl rfl HT_.out HW_.out hHeld (by rintro w' ⟨s0, s1, s2, s3, s4, s5, s6, s7, s8, s9, s10, s11⟩; go_simp; with_reducible rfl) ?_
      refine pT (i := 7) (N := some 72) (bm 13 255) rfl rfl HT_.out HW_.out hHeld (by rintro w' ⟨s0, s1, s2, s3, s4, s5, s6, s7, s8, s9, s10, s11⟩; go_simp; with_reducible rfl) ?_
      refine one_ (i := 8) (N := some 73) (bm 13 511) rfl rfl (one_of HT_.out (by kernel_rfl)) (by decide) (fun K hK => ?_)
      refine goes_ Try.func34 (by kernel_rfl) rfl #[.slice A340_0 (rd_L1 l2 0).length c340_0, .slice A341_0 (rd_L1 l2 1).length c341_0, .int .i64 a1_0] (by rfl) rfl rfl pA ?_
      with_reducible refine (move_joined.calls k2 _ _ (rd_L1 l2 0) _ _ (rd_L1 l2 1) a1_0 t342 t343 _ ?s1 ?s2 ?s3 ?s4 A30.out).mono ?_
      (case s1 => exact sC zad HB)
      (case s2 => exact HC340_0.out)
      (case s3 => exact sC zae HB)
      (case s4 => exact HC341_0.out)
      rintro e w32 ⟨v344, rfl, ho0, hb⟩
      refine ⟨_, rfl, ?_⟩
      have HO345 := aM (Kd.R_lower ho0 (below_size (qB1 HB ze)))
      replace za := bK za hb
      replace HB := bS (qB1 HB ze) hb
      (try clear hb)
      (try clear ho0)
      refine hK.out _ _ ⟨(blk_cell za.out 0).trans rfl, (blk_cell za.out 1).trans rfl, (blk_cell za.out 2).trans rfl, (blk_cell za.out 3).trans rfl, (blk_cell za.out 4).trans rfl, (blk_cell za.out 5).trans rfl, (blk_cell za.out 6).trans rfl, (blk_cell za.out 7).trans rfl, (blk_cell za.out 8).trans rfl, (blk_cell za.out 9).trans rfl, ((HB.out.cell (World.block_lt_of_cell? w _ hw340_0)).trans hw340_0), ((HB.out.cell (World.block_lt_of_cell? w _ hw341_0)).trans hw341_0)⟩ (fun hHeld => ?_)
      clear hK K
      refine norm_ (a' := ?_) ?_ ?_
      rotate_left
      ·show Act.put _ (some 73) _ = _
       simp only [Act.put, sP, i64_w, i32_w]
       rfl
      refine pP (i := 9) (N := some 74) (bm 13 1023) rfl rfl HT_.out ?_
      refine pP (i := 10) (N := some 75) (bm 13 2047) rfl rfl HT_.out ?_
      refine pP (i := 11) (N := some 6) (bm 13 4095) rfl rfl HT_.out ?_
      refine pP (i := 12) (N := some 7) (bm 13 8191) rfl rfl HT_.out ?_
      refine done_ (done_of HT_.out (by kernel_rfl)) ?_
      try go_wp2
      go_ret2
      exact ⟨_, pE, pR HO345.out, qB1 HB ze⟩
     rw [if_neg c27] at H
     have c27b0 : (a0 == 40) = false := beq_eq_false_iff_ne.mpr c27
     have c27b1 : (a0 != 40) = true := bne_iff_ne.mpr c27
     by_cases c33 : 0 < (l2.length : Int)
     rotate_left
     ·rw [if_neg c33] at H
      exact absurd H (by simp)
     rw [if_pos c33] at H
     have c33b0 : decide (0 < (l2.length : Int)) = true := decide_eq_true c33
     have c33b1 : decide (0 < l2.length) = true := decide_eq_true (by omega)
     clear c33
     replace H := Option.bind_eq_some_iff.mp H
     obtain ⟨⟨z4, zx, zy⟩, zaw, H⟩ := H
     try dsimp only at H
     have A34 := aM zaw
     clear zaw
     replace H := Option.bind_eq_some_iff.mp H
     obtain ⟨⟨zag, zan, zao, zah⟩, zax, H⟩ := H
     try dsimp only at H
     have A35 := aM zax
     clear zax
     simp only [Option.some.injEq, Prod.mk.injEq] at H
     obtain ⟨rfl, rfl⟩ := H
     try go_wp2
     replace za := aM (blk_drew za.out)
     replace HB := aM (below_drew1 HB.out)
     have p346 : 0 ≤ (0 : Int) := (by omega)
     have q346 : 0 < (l2.length : Int) := of_decide_eq_true pD
     obtain ⟨ad346, A346_0, c346_0, e346, hx346_0, hl346_0, hi346_0⟩ := at_L1 HR2.out 0 p346 q346
     have hw346_0 := hx346_0
     (try rw [show ((0 : Int)).toNat = 0 from rfl] at hw346_0)
     (try rw [show 0 * 1 = 0 from rfl] at hw346_0)
     (try rw [Addr.add_zero'] at hw346_0)
     cases e346
     have qi346 : (0 < l2.length) = True := eq_true (by omega)
     (try rw [show ((0 : Int)).toNat = 0 from rfl] at hx346_0)
     (try rw [Addr.add_zero'] at hx346_0)
     replace hx346_0 := (HB.out.cell (World.block_lt_of_cell? w _ hx346_0)).trans hx346_0
     have z5 := aM hi346_0
     have zaf := aM hl346_0
     clear hi346_0 hl346_0
     replace p346 := eq_true p346
     replace q346 := eq_true q346
     refine start_ (n := 13) (S := fun w' => w'.cell? ⟨zc, 0, none⟩ = some (.int .i64 a1_0) ∧ w'.cell? ⟨zc, 1, none⟩ = some (.int .i64 a1_1) ∧ w'.cell? ⟨zc, 2, none⟩ = some (.int .i64 a1_2) ∧ w'.cell? ⟨zc, 3, none⟩ = some (.int .i64 a1_3) ∧ w'.cell? ⟨zc, 4, none⟩ = some (.int .i64 a1_4) ∧ w'.cell? ⟨zc, 5, none⟩ = some (.int .i64 a1_5) ∧ w'.cell? ⟨zc, 6, none⟩ = some (.int .i64 a1_6) ∧ w'.cell? ⟨zc, 7, none⟩ = some (.int .i64 a1_7) ∧ w'.cell? ⟨zc, 8, none⟩ = some (.bool a1_8) ∧ w'.cell? ⟨zc, 9, none⟩ = some (.slice A1_9 l1_9.length c1_9) ∧ w'.cell? ad346 = some (.slice A346_0 (rd_L1 l2 0).length c346_0)) (ds := []) (bm 13 0) (by kernel_rfl) rfl rfl ⟨(blk_cell za.out 0).trans rfl, (blk_cell za.out 1).trans rfl, (blk_cell za.out 2).trans rfl, (blk_cell za.out 3).trans rfl, (blk_cell za.out 4).trans rfl, (blk_cell za.out 5).trans rfl, (blk_cell za.out 6).trans rfl, (blk_cell za.out 7).trans rfl, (blk_cell za.out 8).trans rfl, (blk_cell za.out 9).trans rfl, ((HB.out.cell (World.block_lt_of_cell? w _ hw346_0)).trans hw346_0)⟩ (fun hHeld => ?_); refine with_tabW move_Dims.tab19 move_Dims.bits19 (fun HT_ HW_ => ?_)
     generalize wr.drew = w36 at za HB z5 hx346_0 hHeld ⊢
     refine pP (i := 0) (N := some 77) (bm 13 1) rfl rfl HT_.out ?_
     refine pP (i := 2) (N := some 79) (bm 13 5) rfl rfl HT_.out ?_
     refine pP (i := 3) (N := some 80) (bm 13 13) rfl rfl HT_.out ?_
     refine pT (i := 1) (N := some 78) (bm 13 15) rfl rfl HT_.out HW_.out hHeld (by rintro w' ⟨s0, s1, s2, s3, s4, s5, s6, s7, s8, s9, s10⟩; go_simp; with_reducible rfl) ?_
     refine pT (i := 4) (N := some 81) (bm 13 31) rfl rfl HT_.out HW_.out hHeld (by rintro w' ⟨s0, s1, s2, s3, s4, s5, s6, s7, s8, s9, s10⟩; go_simp; with_reducible rfl) ?_
     refine join_ (σ := Value × Value × Value × Value × Nat) 2 (bm 13 2047) (fun s_ => [(82, .agg #[.int .i64 z4, s_.1, s_.2.1]), (83, .tuple #[.agg #[.int .i64 zag, s_.2.2.1, s_.2.2.2.1], .int .i64 zah]), (11, .pointer (some ⟨s_.2.2.2.2, 0, none⟩)), (76, .tuple #[.agg #[.int .i64 zag, s_.2.2.1, s_.2.2.2.1], .int .i64 zah]), (84, .agg #[.int .i64 zag, s_.2.2.1, s_.2.2.2.1]), (85, .int .i64 zah)]) (fun s_ w' => (w'.cell? ⟨zc, 0, none⟩ = some (.int .i64 a1_0) ∧ w'.cell? ⟨zc, 1, none⟩ = some (.int .i64 a1_1) ∧ w'.cell? ⟨zc, 2, none⟩ = some (.int .i64 a1_2) ∧ w'.cell? ⟨zc, 3, none⟩ = some (.int .i64 a1_3) ∧ w'.cell? ⟨zc, 4, none⟩ = some (.int .i64 a1_4) ∧ w'.cell? ⟨zc, 5, none⟩ = some (.int .i64 a1_5) ∧ w'.cell? ⟨zc, 6, none⟩ = some (.int .i64 a1_6) ∧ w'.cell? ⟨zc, 7, none⟩ = some (.int .i64 a1_7) ∧ w'.cell? ⟨zc, 8, none⟩ = some (.bool a1_8) ∧ w'.cell? ⟨zc, 9, none⟩ = some (.slice A1_9 l1_9.length c1_9) ∧ w'.cell? ad346 = some (.slice A346_0 (rd_L1 l2 0).length c346_0)) ∧ (Kd.R (Kd.int .i64) 3 w' w.heap.size (fun k_ => some k_ ≠ (s_.2.1 : Value).ownBlock ∧ some k_ ≠ (s_.2.2.1 : Value).ownBlock ∧ some k_ ≠ (s_.2.2.2.1 : Value).ownBlock) s_.1 zx) ∧ (Kd.R (Kd.int .i64) 3 w' w.heap.size (fun k_ => some k_ ≠ (s_.1 : Value).ownBlock ∧ some k_ ≠ (s_.2.2.1 : Value).ownBlock ∧ some k_ ≠ (s_.2.2.2.1 : Value).ownBlock) s_.2.1 zy) ∧ (Kd.R (Kd.int .i64) 3 w' w.heap.size (fun k_ => some k_ ≠ (s_.1 : Value).ownBlock ∧ some k_ ≠ (s_.2.1 : Value).ownBlock ∧ some k_ ≠ (s_.2.2.2.1 : Value).ownBlock) s_.2.2.1 zan) ∧ (Kd.R (Kd.int .i64) 3 w' w.heap.size (fun k_ => some k_ ≠ (s_.1 : Value).ownBlock ∧ some k_ ≠ (s_.2.1 : Value).ownBlock ∧ some k_ ≠ (s_.2.2.1 : Value).ownBlock) s_.2.2.2.1 zao) ∧ (w'.heap[zc]? = some (.cells #[.int .i64 a1_0, .int .i64 a1_1, .int .i64 a1_2, .int .i64 a1_3, .int .i64 a1_4, .int .i64 a1_5, .int .i64 a1_6, .int .i64 a1_7, .bool a1_8, .slice A1_9 l1_9.length c1_9] 24 (0, 0))) ∧ (w'.heap[s_.2.2.2.2]? = some (.cells #[.int .i64 0, .slice none 0 0, .slice none 0 0] 44 (0, 0))) ∧ (w.heap.size ≤ s_.2.2.2.2) ∧ (w.heap.size ≤ s_.2.2.2.2) ∧ (zc ≠ s_.2.2.2.2) ∧ (s_.2.2.2.2 ≠ zc) ∧ (Below w.heap.size w w')) ?_ ?_
     rotate_left
     ·intro hCont
      refine two_ (i := 5) (j := 10) (Ni := some 82) (Nj := some 11) (bm 13 63) (bm 13 1055) rfl rfl rfl rfl (two_of HT_.out (by kernel_rfl)) (by decide) (by decide) (fun K hK => ?_) (fun K hK => ?_)
      ·skip
       refine goes_ Try.func35 (by kernel_rfl) rfl #[.slice A346_0 (rd_L1 l2 0).length c346_0] (by rfl) rfl rfl pA ?_
       with_reducible refine (view_Whole.calls k2 _ _ (rd_L1 l2 0) z4 zx zy _ ?s1 ?s2 A34.out).mono ?_
       (case s1 => exact sC z5 HB)
       (case s2 => exact zaf.out)
       rintro e w37 ⟨zai, zaj, rfl, ho0, ho1, hb⟩
       refine ⟨_, rfl, ?_⟩
       have zf := aM (Kd.R_lower ho0 (below_size (qB1 HB ze)))
       have zg := aM (Kd.R_lower ho1 (below_size (qB1 HB ze)))
       replace za := bK za hb
       replace HB := bS (qB1 HB ze) hb
       (try clear hb)
       (try clear ho0)
       (try clear ho1)
       obtain ⟨zay, zaz, za0⟩ := Kd.R_slice zf.out
       (first | subst za0 | (injection za0 with f1_ f2_ f3_; have f4_ := f1_.symm; have f5_ := f3_.symm; clear f1_ f2_ f3_; subst f4_; subst f5_))
       obtain ⟨z8, z9, zaa⟩ := Kd.R_slice zg.out
       (first | subst zaa | (injection zaa with f1_ f2_ f3_; have f4_ := f1_.symm; have f5_ := f3_.symm; clear f1_ f2_ f3_; subst f4_; subst f5_))
       refine hK.out _ _ ⟨(blk_cell za.out 0).trans rfl, (blk_cell za.out 1).trans rfl, (blk_cell za.out 2).trans rfl, (blk_cell za.out 3).trans rfl, (blk_cell za.out 4).trans rfl, (blk_cell za.out 5).trans rfl, (blk_cell za.out 6).trans rfl, (blk_cell za.out 7).trans rfl, (blk_cell za.out 8).trans rfl, (blk_cell za.out 9).trans rfl, ((HB.out.cell (World.block_lt_of_cell? w _ hw346_0)).trans hw346_0)⟩ (fun hHeld => ?_)
       clear hK K
       refine norm_ (a' := ?_) ?_ ?_
       rotate_left
       ·show Act.put _ (some 82) _ = _
        simp only [Act.put, sP, i64_w, i32_w]
        rfl
       refine two_ (i := 6) (j := 10) (Ni := some 83) (Nj := some 11) (bm 13 127) (bm 13 1087) rfl rfl rfl rfl (two_of HT_.out (by kernel_rfl)) (by decide) (by decide) (fun K hK => ?_) (fun K hK => ?_)
       ·skip
        refine goes_ Try.func18 (by kernel_rfl) rfl #[.int .i64 a0, .agg #[.int .i64 a1_0, .int .i64 a1_1, .int .i64 a1_2, .int .i64 a1_3, .int .i64 a1_4, .int .i64 a1_5, .int .i64 a1_6, .int .i64 a1_7, .bool a1_8, .slice A1_9 l1_9.length c1_9], .agg #[.int .i64 z4, .slice zay zx.length zaz, .slice z8 zy.length z9]] (by rfl) rfl rfl pA ?_
        with_reducible refine (move_View.calls k2 a0 a1_0 a1_1 a1_2 a1_3 a1_4 a1_5 a1_6 a1_7 a1_8 _ _ l1_9 z4 _ _ zx _ _ zy zag zan zao zah _ ?s1 ?s2 ?s3 ?s4 ?s5 ?s6 A35.out).mono ?_
        (case s1 => exact sC z6 HB)
        (case s2 => exact z7.out)
        (case s3 => exact sR zf)
        (case s4 => exact sL zf)
        (case s5 => exact sR zg)
        (case s6 => exact sL zg)
        rintro e w40 ⟨z0, z1, rfl, ho0, ho1, hb⟩
        refine ⟨_, rfl, ?_⟩
        have zv := aM (Kd.R_lower (Kd.R_new' (Kd.R_new' ho0 (Kd.R_lt (pR zf.out))) (Kd.R_lt (pR zg.out))) (below_size (qB1 HB ze)))
        have zw := aM (Kd.R_lower (Kd.R_new' (Kd.R_new' ho1 (Kd.R_lt (pR zf.out))) (Kd.R_lt (pR zg.out))) (below_size (qB1 HB ze)))
        replace zf := eR2 zf ho0 ho1 hb
        replace zg := eR2 zg ho0 ho1 hb
        replace za := bK za hb
        replace HB := bS (qB1 HB ze) hb
        (try clear hb)
        (try clear ho0)
        (try clear ho1)
        refine hK.out _ _ ⟨(blk_cell za.out 0).trans rfl, (blk_cell za.out 1).trans rfl, (blk_cell za.out 2).trans rfl, (blk_cell za.out 3).trans rfl, (blk_cell za.out 4).trans rfl, (blk_cell za.out 5).trans rfl, (blk_cell za.out 6).trans rfl, (blk_cell za.out 7).trans rfl, (blk_cell za.out 8).trans rfl, (blk_cell za.out 9).trans rfl, ((HB.out.cell (World.block_lt_of_cell? w _ hw346_0)).trans hw346_0)⟩ (fun hHeld => ?_)
        clear hK K
        refine norm_ (a' := ?_) ?_ ?_
        rotate_left
        ·show Act.put _ (some 83) _ = _
         simp only [Act.put, sP, i64_w, i32_w]
         rfl
        refine pP (i := 7) (N := some 76) (bm 13 255) rfl rfl HT_.out ?_
        refine pP (i := 8) (N := some 84) (bm 13 511) rfl rfl HT_.out ?_
        refine pP (i := 9) (N := some 85) (bm 13 1023) rfl rfl HT_.out ?_
        refine one_ (i := 10) (N := some 11) (bm 13 2047) rfl rfl (one_of HT_.out (by kernel_rfl)) (by decide) (fun K hK => ?_)
        refine box_step ?hg (N := 11) ?hd (cs := #[.int .i64 0, .slice none 0 0, .slice none 0 0]) (t := 44) ?hr ?_; (case hd => rfl); (case hg => rfl); (case hr => first | (go_simp; done) | (go_simp; rfl))
        intro zd hg w41 hbox hb
        replace zf := bR zf hb
        replace zg := bR zg hb
        replace zv := bR zv hb
        replace zw := bR zw hb
        have zj := aM (hbox)
        have zi := gE (w := w) hg (qB1 HB ze)
        have zk := zi
        replace HB := bS (qB1 HB ze) hb
        have zb := nL hg za
        have zh := nG hg za
        replace za := bK za hb
        clear hb hbox hg
        refine hK.out _ _ ⟨(blk_cell za.out 0).trans rfl, (blk_cell za.out 1).trans rfl, (blk_cell za.out 2).trans rfl, (blk_cell za.out 3).trans rfl, (blk_cell za.out 4).trans rfl, (blk_cell za.out 5).trans rfl, (blk_cell za.out 6).trans rfl, (blk_cell za.out 7).trans rfl, (blk_cell za.out 8).trans rfl, (blk_cell za.out 9).trans rfl, ((HB.out.cell (World.block_lt_of_cell? w _ hw346_0)).trans hw346_0)⟩ (fun hHeld => ?_)
        clear hK K
        refine norm_ (a' := ?_) ?_ ?_
        rotate_left
        ·show Act.put _ (some 11) _ = _
         simp only [Act.put, sP, i64_w, i32_w]
         rfl
        exact norm_ (by simp only [putAll, Act.put, sP]) (hCont (.slice zay zx.length zaz, .slice z8 zy.length z9, z0, z1, zd) _ ⟨hHeld, (by (with_reducible repeat (first | apply rA | apply rN | apply rD)); exact Kd.R_mono zf.out (fun _ hk => ⟨hk.1.1, ⟨hk.1.2, hk.2⟩⟩)), (by (with_reducible repeat (first | apply rA | apply rN | apply rD)); exact Kd.R_mono zg.out (fun _ hk => ⟨hk.1.1, ⟨hk.1.2, hk.2⟩⟩)), (by (with_reducible repeat (first | apply rA | apply rN | apply rD)); exact Kd.R_mono zv.out (fun _ hk => ⟨hk.1.2, ⟨hk.2, hk.1.1⟩⟩)), (by (with_reducible repeat (first | apply rA | apply rN | apply rD)); exact Kd.R_mono zw.out (fun _ hk => ⟨hk.1.2, ⟨hk.2, hk.1.1⟩⟩)), (pK za.out), (pK zj.out), zi.out, zk.out, zb.out, zh.out, (qB2 HB ze zk)⟩)
       ·skip
        refine box_step ?hg (N := 11) ?hd (cs := #[.int .i64 0, .slice none 0 0, .slice none 0 0]) (t := 44) ?hr ?_; (case hd => rfl); (case hg => rfl); (case hr => first | (go_simp; done) | (go_simp; rfl))
        intro zd hg w38 hbox hb
        replace zf := bR zf hb
        replace zg := bR zg hb
        have zj := aM (hbox)
        have zi := gE (w := w) hg (qB1 HB ze)
        have zk := zi
        replace HB := bS (qB1 HB ze) hb
        have zb := nL hg za
        have zh := nG hg za
        replace za := bK za hb
        clear hb hbox hg
        obtain ⟨z8, z9, zaa⟩ := Kd.R_slice zf.out
        (first | subst zaa | (injection zaa with f1_ f2_ f3_; have f4_ := f1_.symm; have f5_ := f3_.symm; clear f1_ f2_ f3_; subst f4_; subst f5_))
        obtain ⟨zap, zaq, zar⟩ := Kd.R_slice zg.out
        (first | subst zar | (injection zar with f1_ f2_ f3_; have f4_ := f1_.symm; have f5_ := f3_.symm; clear f1_ f2_ f3_; subst f4_; subst f5_))
        refine hK.out _ _ ⟨(blk_cell za.out 0).trans rfl, (blk_cell za.out 1).trans rfl, (blk_cell za.out 2).trans rfl, (blk_cell za.out 3).trans rfl, (blk_cell za.out 4).trans rfl, (blk_cell za.out 5).trans rfl, (blk_cell za.out 6).trans rfl, (blk_cell za.out 7).trans rfl, (blk_cell za.out 8).trans rfl, (blk_cell za.out 9).trans rfl, ((HB.out.cell (World.block_lt_of_cell? w _ hw346_0)).trans hw346_0)⟩ (fun hHeld => ?_)
        clear hK K
        refine norm_ (a' := ?_) ?_ ?_
        rotate_left
        ·show Act.put _ (some 11) _ = _
         simp only [Act.put, sP, i64_w, i32_w]
         rfl
        refine one_ (i := 6) (N := some 83) (bm 13 1151) rfl rfl (one_of HT_.out (by kernel_rfl)) (by decide) (fun K hK => ?_)
        refine goes_ Try.func18 (by kernel_rfl) rfl #[.int .i64 a0, .agg #[.int .i64 a1_0, .int .i64 a1_1, .int .i64 a1_2, .int .i64 a1_3, .int .i64 a1_4, .int .i64 a1_5, .int .i64 a1_6, .int .i64 a1_7, .bool a1_8, .slice A1_9 l1_9.length c1_9], .agg #[.int .i64 z4, .slice z8 zx.length z9, .slice zap zy.length zaq]] (by rfl) rfl rfl pA ?_
        with_reducible refine (move_View.calls k2 a0 a1_0 a1_1 a1_2 a1_3 a1_4 a1_5 a1_6 a1_7 a1_8 _ _ l1_9 z4 _ _ zx _ _ zy zag zan zao zah _ ?s1 ?s2 ?s3 ?s4 ?s5 ?s6 A35.out).mono ?_
        (case s1 => exact sC z6 HB)
        (case s2 => exact z7.out)
        (case s3 => exact sR zf)
        (case s4 => exact sL zf)
        (case s5 => exact sR zg)
        (case s6 => exact sL zg)
        rintro e w41 ⟨z0, z1, rfl, ho0, ho1, hb⟩
        refine ⟨_, rfl, ?_⟩
        have zv := aM (Kd.R_lower (Kd.R_new' (Kd.R_new' ho0 (Kd.R_lt (pR zf.out))) (Kd.R_lt (pR zg.out))) (below_size (qB2 HB ze zk)))
        have zw := aM (Kd.R_lower (Kd.R_new' (Kd.R_new' ho1 (Kd.R_lt (pR zf.out))) (Kd.R_lt (pR zg.out))) (below_size (qB2 HB ze zk)))
        replace zf := eR2 zf ho0 ho1 hb
        replace zg := eR2 zg ho0 ho1 hb
        replace za := bK za hb
        replace zj := bK zj hb
        replace HB := bS (qB2 HB ze zk) hb
        (try clear hb)
        (try clear ho0)
        (try clear ho1)
        refine hK.out _ _ ⟨(blk_cell za.out 0).trans rfl, (blk_cell za.out 1).trans rfl, (blk_cell za.out 2).trans rfl, (blk_cell za.out 3).trans rfl, (blk_cell za.out 4).trans rfl, (blk_cell za.out 5).trans rfl, (blk_cell za.out 6).trans rfl, (blk_cell za.out 7).trans rfl, (blk_cell za.out 8).trans rfl, (blk_cell za.out 9).trans rfl, ((HB.out.cell (World.block_lt_of_cell? w _ hw346_0)).trans hw346_0)⟩ (fun hHeld => ?_)
        clear hK K
        refine norm_ (a' := ?_) ?_ ?_
        rotate_left
        ·show Act.put _ (some 83) _ = _
         simp only [Act.put, sP, i64_w, i32_w]
         rfl
        refine pP (i := 7) (N := some 76) (bm 13 1279) rfl rfl HT_.out ?_
        refine pP (i := 8) (N := some 84) (bm 13 1535) rfl rfl HT_.out ?_
        refine pP (i := 9) (N := some 85) (bm 13 2047) rfl rfl HT_.out ?_
        exact norm_ (by simp only [putAll, Act.put, sP]) (hCont (.slice z8 zx.length z9, .slice zap zy.length zaq, z0, z1, zd) _ ⟨hHeld, (by (with_reducible repeat (first | apply rA | apply rN | apply rD)); exact Kd.R_mono zf.out (fun _ hk => ⟨hk.1.1, ⟨hk.1.2, hk.2⟩⟩)), (by (with_reducible repeat (first | apply rA | apply rN | apply rD)); exact Kd.R_mono zg.out (fun _ hk => ⟨hk.1.1, ⟨hk.1.2, hk.2⟩⟩)), (by (with_reducible repeat (first | apply rA | apply rN | apply rD)); exact Kd.R_mono zv.out (fun _ hk => ⟨hk.1.2, ⟨hk.2, hk.1.1⟩⟩)), (by (with_reducible repeat (first | apply rA | apply rN | apply rD)); exact Kd.R_mono zw.out (fun _ hk => ⟨hk.1.2, ⟨hk.2, hk.1.1⟩⟩)), (pK za.out), (pK zj.out), zi.out, zk.out, zb.out, zh.out, (qB2 HB ze zk)⟩)
      ·skip
       refine box_step ?hg (N := 11) ?hd (cs := #[.int .i64 0, .slice none 0 0, .slice none 0 0]) (t := 44) ?hr ?_; (case hd => rfl); (case hg => rfl); (case hr => first | (go_simp; done) | (go_simp; rfl))
       intro zd hg w37 hbox hb
       have zj := aM (hbox)
       have zi := gE (w := w) hg (qB1 HB ze)
       have zk := zi
       replace HB := bS (qB1 HB ze) hb
       have zb := nL hg za
       have zh := nG hg za
       replace za := bK za hb
       clear hb hbox hg
       refine hK.out _ _ ⟨(blk_cell za.out 0).trans rfl, (blk_cell za.out 1).trans rfl, (blk_cell za.out 2).trans rfl, (blk_cell za.out 3).trans rfl, (blk_cell za.out 4).trans rfl, (blk_cell za.out 5).trans rfl, (blk_cell za.out 6).trans rfl, (blk_cell za.out 7).trans rfl, (blk_cell za.out 8).trans rfl, (blk_cell za.out 9).trans rfl, ((HB.out.cell (World.block_lt_of_cell? w _ hw346_0)).trans hw346_0)⟩ (fun hHeld => ?_)
       clear hK K
       refine norm_ (a' := ?_) ?_ ?_
       rotate_left
       ·show Act.put _ (some 11) _ = _
        simp only [Act.put, sP, i64_w, i32_w]
        rfl
       refine one_ (i := 5) (N := some 82) (bm 13 1087) rfl rfl (one_of HT_.out (by kernel_rfl)) (by decide) (fun K hK => ?_)
       refine goes_ Try.func35 (by kernel_rfl) rfl #[.slice A346_0 (rd_L1 l2 0).length c346_0] (by rfl) rfl rfl pA ?_
       with_reducible refine (view_Whole.calls k2 _ _ (rd_L1 l2 0) z4 zx zy _ ?s1 ?s2 A34.out).mono ?_
       (case s1 => exact sC z5 HB)
       (case s2 => exact zaf.out)
       rintro e w38 ⟨zai, zaj, rfl, ho0, ho1, hb⟩
       refine ⟨_, rfl, ?_⟩
       have zf := aM (Kd.R_lower ho0 (below_size (qB2 HB ze zk)))
       have zg := aM (Kd.R_lower ho1 (below_size (qB2 HB ze zk)))
       replace za := bK za hb
       replace zj := bK zj hb
       replace HB := bS (qB2 HB ze zk) hb
       (try clear hb)
       (try clear ho0)
       (try clear ho1)
       obtain ⟨z8, z9, zaa⟩ := Kd.R_slice zf.out
       (first | subst zaa | (injection zaa with f1_ f2_ f3_; have f4_ := f1_.symm; have f5_ := f3_.symm; clear f1_ f2_ f3_; subst f4_; subst f5_))
       obtain ⟨zap, zaq, zar⟩ := Kd.R_slice zg.out
       (first | subst zar | (injection zar with f1_ f2_ f3_; have f4_ := f1_.symm; have f5_ := f3_.symm; clear f1_ f2_ f3_; subst f4_; subst f5_))
       refine hK.out _ _ ⟨(blk_cell za.out 0).trans rfl, (blk_cell za.out 1).trans rfl, (blk_cell za.out 2).trans rfl, (blk_cell za.out 3).trans rfl, (blk_cell za.out 4).trans rfl, (blk_cell za.out 5).trans rfl, (blk_cell za.out 6).trans rfl, (blk_cell za.out 7).trans rfl, (blk_cell za.out 8).trans rfl, (blk_cell za.out 9).trans rfl, ((HB.out.cell (World.block_lt_of_cell? w _ hw346_0)).trans hw346_0)⟩ (fun hHeld => ?_)
       clear hK K
       refine norm_ (a' := ?_) ?_ ?_
       rotate_left
       ·show Act.put _ (some 82) _ = _
        simp only [Act.put, sP, i64_w, i32_w]
        rfl
       refine one_ (i := 6) (N := some 83) (bm 13 1151) rfl rfl (one_of HT_.out (by kernel_rfl)) (by decide) (fun K hK => ?_)
       refine goes_ Try.func18 (by kernel_rfl) rfl #[.int .i64 a0, .agg #[.int .i64 a1_0, .int .i64 a1_1, .int .i64 a1_2, .int .i64 a1_3, .int .i64 a1_4, .int .i64 a1_5, .int .i64 a1_6, .int .i64 a1_7, .bool a1_8, .slice A1_9 l1_9.length c1_9], .agg #[.int .i64 z4, .slice z8 zx.length z9, .slice zap zy.length zaq]] (by rfl) rfl rfl pA ?_
       with_reducible refine (move_View.calls k2 a0 a1_0 a1_1 a1_2 a1_3 a1_4 a1_5 a1_6 a1_7 a1_8 _ _ l1_9 z4 _ _ zx _ _ zy zag zan zao zah _ ?s1 ?s2 ?s3 ?s4 ?s5 ?s6 A35.out).mono ?_
       (case s1 => exact sC z6 HB)
       (case s2 => exact z7.out)
       (case s3 => exact sR zf)
       (case s4 => exact sL zf)
       (case s5 => exact sR zg)
       (case s6 => exact sL zg)
       rintro e w41 ⟨z0, z1, rfl, ho0, ho1, hb⟩
       refine ⟨_, rfl, ?_⟩
       have zv := aM (Kd.R_lower (Kd.R_new' (Kd.R_new' ho0 (Kd.R_lt (pR zf.out))) (Kd.R_lt (pR zg.out))) (below_size (qB2 HB ze zk)))
       have zw := aM (Kd.R_lower (Kd.R_new' (Kd.R_new' ho1 (Kd.R_lt (pR zf.out))) (Kd.R_lt (pR zg.out))) (below_size (qB2 HB ze zk)))
       replace zf := eR2 zf ho0 ho1 hb
       replace zg := eR2 zg ho0 ho1 hb
       replace za := bK za hb
       replace zj := bK zj hb
       replace HB := bS (qB2 HB ze zk) hb
       (try clear hb)
       (try clear ho0)
       (try clear ho1)
       refine hK.out _ _ ⟨(blk_cell za.out 0).trans rfl, (blk_cell za.out 1).trans rfl, (blk_cell za.out 2).trans rfl, (blk_cell za.out 3).trans rfl, (blk_cell za.out 4).trans rfl, (blk_cell za.out 5).trans rfl, (blk_cell za.out 6).trans rfl, (blk_cell za.out 7).trans rfl, (blk_cell za.out 8).trans rfl, (blk_cell za.out 9).trans rfl, ((HB.out.cell (World.block_lt_of_cell? w _ hw346_0)).trans hw346_0)⟩ (fun hHeld => ?_)
       clear hK K
       refine norm_ (a' := ?_) ?_ ?_
       rotate_left
       ·show Act.put _ (some 83) _ = _
        simp only [Act.put, sP, i64_w, i32_w]
        rfl
       refine pP (i := 7) (N := some 76) (bm 13 1279) rfl rfl HT_.out ?_
       refine pP (i := 8) (N := some 84) (bm 13 1535) rfl rfl HT_.out ?_
       refine pP (i := 9) (N := some 85) (bm 13 2047) rfl rfl HT_.out ?_
       exact norm_ (by simp only [putAll, Act.put, sP]) (hCont (.slice z8 zx.length z9, .slice zap zy.length zaq, z0, z1, zd) _ ⟨hHeld, (by (with_reducible repeat (first | apply rA | apply rN | apply rD)); exact Kd.R_mono zf.out (fun _ hk => ⟨hk.1.1, ⟨hk.1.2, hk.2⟩⟩)), (by (with_reducible repeat (first | apply rA | apply rN | apply rD)); exact Kd.R_mono zg.out (fun _ hk => ⟨hk.1.1, ⟨hk.1.2, hk.2⟩⟩)), (by (with_reducible repeat (first | apply rA | apply rN | apply rD)); exact Kd.R_mono zv.out (fun _ hk => ⟨hk.1.2, ⟨hk.2, hk.1.1⟩⟩)), (by (with_reducible repeat (first | apply rA | apply rN | apply rD)); exact Kd.R_mono zw.out (fun _ hk => ⟨hk.1.2, ⟨hk.2, hk.1.1⟩⟩)), (pK za.out), (pK zj.out), zi.out, zk.out, zb.out, zh.out, (qB2 HB ze zk)⟩)
     rintro ⟨zai, zaj, z0, z1, zd⟩ w42 ⟨hS_, h0_, h1_, h2_, h3_, h4_, h5_, h6_, h7_, h8_, h9_, h10_⟩
     have n0_ : Aside0 (Kd.R (Kd.int .i64) 3 w42 w.heap.size (fun k_ => some k_ ≠ (zaj : Value).ownBlock ∧ some k_ ≠ (z0 : Value).ownBlock ∧ some k_ ≠ (z1 : Value).ownBlock) zai zx) := ⟨h0_⟩
     have n1_ : Aside0 (Kd.R (Kd.int .i64) 3 w42 w.heap.size (fun k_ => some k_ ≠ (zai : Value).ownBlock ∧ some k_ ≠ (z0 : Value).ownBlock ∧ some k_ ≠ (z1 : Value).ownBlock) zaj zy) := ⟨h1_⟩
     have n2_ : Aside0 (Kd.R (Kd.int .i64) 3 w42 w.heap.size (fun k_ => some k_ ≠ (zai : Value).ownBlock ∧ some k_ ≠ (zaj : Value).ownBlock ∧ some k_ ≠ (z1 : Value).ownBlock) z0 zan) := ⟨h2_⟩
     have n3_ : Aside0 (Kd.R (Kd.int .i64) 3 w42 w.heap.size (fun k_ => some k_ ≠ (zai : Value).ownBlock ∧ some k_ ≠ (zaj : Value).ownBlock ∧ some k_ ≠ (z0 : Value).ownBlock) z1 zao) := ⟨h3_⟩
     have n4_ : Aside0 (w42.heap[zc]? = some (.cells #[.int .i64 a1_0, .int .i64 a1_1, .int .i64 a1_2, .int .i64 a1_3, .int .i64 a1_4, .int .i64 a1_5, .int .i64 a1_6, .int .i64 a1_7, .bool a1_8, .slice A1_9 l1_9.length c1_9] 24 (0, 0))) := ⟨h4_⟩
     have n5_ : Aside0 (w42.heap[zd]? = some (.cells #[.int .i64 0, .slice none 0 0, .slice none 0 0] 44 (0, 0))) := ⟨h5_⟩
     have n6_ : Aside0 (w.heap.size ≤ zd) := ⟨h6_⟩
     have n7_ : Aside0 (w.heap.size ≤ zd) := ⟨h7_⟩
     have n8_ : Aside0 (zc ≠ zd) := ⟨h8_⟩
     have n9_ : Aside0 (zd ≠ zc) := ⟨h9_⟩
     have n10_ : Aside0 (Below w.heap.size w w42) := ⟨h10_⟩
     clear za
     clear HB
     clear h0_ h1_ h2_ h3_ h4_ h5_ h6_ h7_ h8_ h9_ h10_
     have zf := n0_
     have zg := n1_
     have zv := n2_
     have zw := n3_
     have za := n4_
     have zj := n5_
     have zi := n6_
     have zk := n7_
     have zb := n8_
     have zh := n9_
     have HB := n10_
     clear n0_ n1_ n2_ n3_ n4_ n5_ n6_ n7_ n8_ n9_ n10_
     have hHeld : w42.cell? ⟨zc, 0, none⟩ = some (.int .i64 a1_0) ∧ w42.cell? ⟨zc, 1, none⟩ = some (.int .i64 a1_1) ∧ w42.cell? ⟨zc, 2, none⟩ = some (.int .i64 a1_2) ∧ w42.cell? ⟨zc, 3, none⟩ = some (.int .i64 a1_3) ∧ w42.cell? ⟨zc, 4, none⟩ = some (.int .i64 a1_4) ∧ w42.cell? ⟨zc, 5, none⟩ = some (.int .i64 a1_5) ∧ w42.cell? ⟨zc, 6, none⟩ = some (.int .i64 a1_6) ∧ w42.cell? ⟨zc, 7, none⟩ = some (.int .i64 a1_7) ∧ w42.cell? ⟨zc, 8, none⟩ = some (.bool a1_8) ∧ w42.cell? ⟨zc, 9, none⟩ = some (.slice A1_9 l1_9.length c1_9) ∧ w42.cell? ad346 = some (.slice A346_0 (rd_L1 l2 0).length c346_0) := hS_
     obtain ⟨Ao44, co44, za1⟩ := Kd.R_slice zv.out
     (first | subst za1 | (injection za1 with f1_ f2_ f3_; have f4_ := f1_.symm; have f5_ := f3_.symm; clear f1_ f2_ f3_; subst f4_; subst f5_))
     obtain ⟨Ao46, co46, za2⟩ := Kd.R_slice zw.out
     (first | subst za2 | (injection za2 with f1_ f2_ f3_; have f4_ := f1_.symm; have f5_ := f3_.symm; clear f1_ f2_ f3_; subst f4_; subst f5_))
     refine norm_ (a' := ?_) ?_ ?_
     rotate_left
     ·simp only [putAll, Act.put, sP]
      rfl
     refine one_ (i := 11) (N := none) (bm 13 4095) rfl rfl (one_of HT_.out (by kernel_rfl)) (by decide) (fun K hK => ?_)
     have hs43 : w42.cell? ⟨zd, 0, none⟩ = some (.int .i64 0) := (blk_cell zj.out 0).trans rfl
     have hfs43 := blk_frozen zj.out 0
     have hns43_0 := zb.out
     have hms43_0 := zh.out
     have hs45 : w42.cell? ⟨zd, 1, none⟩ = some (.slice none 0 0) := (blk_cell zj.out 1).trans rfl
     have hfs45 := blk_frozen zj.out 1
     have hns45_0 := zb.out
     have hms45_0 := zh.out
     have hs47 : w42.cell? ⟨zd, 2, none⟩ = some (.slice none 0 0) := (blk_cell zj.out 2).trans rfl
     have hfs47 := blk_frozen zj.out 2
     have hns47_0 := zb.out
     have hms47_0 := zh.out
     refine skip_ (w1 := ?_) (by rfl) rfl ?_ ?_
     rotate_left
     ·go_simp
      rfl
     refine hK.out _ _ ⟨((cell_far (p := ⟨zd, _, none⟩) zb.out _).trans (((cell_far (p := ⟨zd, _, none⟩) zb.out _).trans (((cell_far (p := ⟨zd, _, none⟩) zb.out _).trans (hHeld.1)))))), ((cell_far (p := ⟨zd, _, none⟩) zb.out _).trans (((cell_far (p := ⟨zd, _, none⟩) zb.out _).trans (((cell_far (p := ⟨zd, _, none⟩) zb.out _).trans (hHeld.2.1)))))), ((cell_far (p := ⟨zd, _, none⟩) zb.out _).trans (((cell_far (p := ⟨zd, _, none⟩) zb.out _).trans (((cell_far (p := ⟨zd, _, none⟩) zb.out _).trans (hHeld.2.2.1)))))), ((cell_far (p := ⟨zd, _, none⟩) zb.out _).trans (((cell_far (p := ⟨zd, _, none⟩) zb.out _).trans (((cell_far (p := ⟨zd, _, none⟩) zb.out _).trans (hHeld.2.2.2.1)))))), ((cell_far (p := ⟨zd, _, none⟩) zb.out _).trans (((cell_far (p := ⟨zd, _, none⟩) zb.out _).trans (((cell_far (p := ⟨zd, _, none⟩) zb.out _).trans (hHeld.2.2.2.2.1)))))), ((cell_far (p := ⟨zd, _, none⟩) zb.out _).trans (((cell_far (p := ⟨zd, _, none⟩) zb.out _).trans (((cell_far (p := ⟨zd, _, none⟩) zb.out _).trans (hHeld.2.2.2.2.2.1)))))), ((cell_far (p := ⟨zd, _, none⟩) zb.out _).trans (((cell_far (p := ⟨zd, _, none⟩) zb.out _).trans (((cell_far (p := ⟨zd, _, none⟩) zb.out _).trans (hHeld.2.2.2.2.2.2.1)))))), ((cell_far (p := ⟨zd, _, none⟩) zb.out _).trans (((cell_far (p := ⟨zd, _, none⟩) zb.out _).trans (((cell_far (p := ⟨zd, _, none⟩) zb.out _).trans (hHeld.2.2.2.2.2.2.2.1)))))), ((cell_far (p := ⟨zd, _, none⟩) zb.out _).trans (((cell_far (p := ⟨zd, _, none⟩) zb.out _).trans (((cell_far (p := ⟨zd, _, none⟩) zb.out _).trans (hHeld.2.2.2.2.2.2.2.2.1)))))), ((cell_far (p := ⟨zd, _, none⟩) zb.out _).trans (((cell_far (p := ⟨zd, _, none⟩) zb.out _).trans (((cell_far (p := ⟨zd, _, none⟩) zb.out _).trans (hHeld.2.2.2.2.2.2.2.2.2.1)))))), ((cell_far (p := ⟨zd, _, none⟩) (by first | exact Nat.ne_of_lt (Nat.lt_of_lt_of_le (by have := World.block_lt_of_cell? _ _ hw346_0; first | rwa [add_block] at this | exact this) zi.out) | (rw [add_block]; exact Nat.ne_of_lt (Nat.lt_of_lt_of_le (by have := World.block_lt_of_cell? _ _ hw346_0; first | rwa [add_block] at this | exact this) zi.out)) | (show (Addr.add _ _).block ≠ _; rw [add_block]; exact Nat.ne_of_lt (Nat.lt_of_lt_of_le (by have := World.block_lt_of_cell? _ _ hw346_0; first | rwa [add_block] at this | exact this) zi.out)) | (dsimp only; exact Nat.ne_of_lt (Nat.lt_of_lt_of_le (by have := World.block_lt_of_cell? _ _ hw346_0; first | rwa [add_block] at this | exact this) zi.out))) _).trans (((cell_far (p := ⟨zd, _, none⟩) (by first | exact Nat.ne_of_lt (Nat.lt_of_lt_of_le (by have := World.block_lt_of_cell? _ _ hw346_0; first | rwa [add_block] at this | exact this) zi.out) | (rw [add_block]; exact Nat.ne_of_lt (Nat.lt_of_lt_of_le (by have := World.block_lt_of_cell? _ _ hw346_0; first | rwa [add_block] at this | exact this) zi.out)) | (show (Addr.add _ _).block ≠ _; rw [add_block]; exact Nat.ne_of_lt (Nat.lt_of_lt_of_le (by have := World.block_lt_of_cell? _ _ hw346_0; first | rwa [add_block] at this | exact this) zi.out)) | (dsimp only; exact Nat.ne_of_lt (Nat.lt_of_lt_of_le (by have := World.block_lt_of_cell? _ _ hw346_0; first | rwa [add_block] at this | exact this) zi.out))) _).trans (((cell_far (p := ⟨zd, _, none⟩) (by first | exact Nat.ne_of_lt (Nat.lt_of_lt_of_le (by have := World.block_lt_of_cell? _ _ hw346_0; first | rwa [add_block] at this | exact this) zi.out) | (rw [add_block]; exact Nat.ne_of_lt (Nat.lt_of_lt_of_le (by have := World.block_lt_of_cell? _ _ hw346_0; first | rwa [add_block] at this | exact this) zi.out)) | (show (Addr.add _ _).block ≠ _; rw [add_block]; exact Nat.ne_of_lt (Nat.lt_of_lt_of_le (by have := World.block_lt_of_cell? _ _ hw346_0; first | rwa [add_block] at this | exact this) zi.out)) | (dsimp only; exact Nat.ne_of_lt (Nat.lt_of_lt_of_le (by have := World.block_lt_of_cell? _ _ hw346_0; first | rwa [add_block] at this | exact this) zi.out))) _).trans (hHeld.2.2.2.2.2.2.2.2.2.2))))))⟩ (fun hHeld => ?_)
     clear hK K
     refine pP (i := 12) (N := some 12) (bm 13 8191) rfl rfl HT_.out ?_
     refine done_ (done_of HT_.out (by kernel_rfl)) ?_
     have hnb48 := zh.out
     have hnc48 := zb.out
     obtain ⟨hcz49_0, hcz49_1, hcz49_2, hfz49_0, hfz49_1, hfz49_2⟩ := blk3 zj.out
     try go_wp2
     go_ret2
     exact ⟨_, pE, by (with_reducible repeat (first | apply rA | apply rN | apply rD)); exact F3 zv zj (fun _ hk => trivial), qB2 HB ze zk⟩
mutual
def prim_Arity.j0 : Nat → Int → Bool → Option (Int)
 | 0, _, _ => none
 | k + 1, x0, x7 => if x7 = true then (prim_Arity.j1 k x0 x7) else (if x0 = 32 then (prim_Arity.j1 k x0 (x0 == 32)) else (prim_Arity.j1 k x0 (x0 == 40)))
def prim_Arity.j1 : Nat → Int → Bool → Option (Int)
 | 0, _, _ => none
 | k + 1, x0, x7 => if x7 = true then (some 2) else (if x0 ≥ 24 then (if x0 ≤ 26 then (some 3) else (some 1)) else (some 1))
end
def prim_Arity.f (k : Nat) (a0 : Int) : Option (Int) := (prim_Is.f a0).bind fun za => (if za = true then (if a0 ≥ 17 then (prim_Arity.j0 k a0 (decide (a0 ≤ 23))) else (prim_Arity.j0 k a0 false)) else (some 0))
set_option maxHeartbeats 8000000 in
set_option maxRecDepth 100000 in
theorem prim_Arity.calls (k : Nat) (a0 : Int) (r : Int) (w : World) (h : prim_Arity.f k a0 = some r) :
  Calls Try.prog 51 #[.int .i64 a0] w fun e w' => e = .returned (.int .i64 r) ∧ Drawn0 w w' := by
 have H : ((prim_Is.f a0).bind fun za => (if za = true then (if a0 ≥ 17 then (prim_Arity.j0 k a0 (decide (a0 ≤ 23))) else (prim_Arity.j0 k a0 false)) else (some 0))) = some r := h
 clear h
 replace H := Option.bind_eq_some_iff.mp H
 obtain ⟨za, A20, H⟩ := H
 try dsimp only at H
 have A2 := aM A20
 clear A20
 by_cases c3 : za = true
 rotate_left
 ·replace c3 := Bool.eq_false_iff.mpr c3
  subst c3
  rw [if_neg (show ¬ (false = true) by decide)] at H
  obtain rfl := Option.some.inj H
  go_enter Try.func51, Try.ntmps51
  go_wp2_with (first | ((with_reducible refine gate_callee (f := 50) rfl ?_); refine goesL_ (some 5) rfl rfl Try.func50 (by kernel_rfl) rfl #[.int .i64 a0] rfl pA ?_; (with_reducible refine (prim_Is.calls a0 false _ A2.out).mono ?_); rintro e w' ⟨rfl, ⟨nd, rfl⟩⟩; refine ⟨_, rfl, ?_⟩))
  go_ret
  exact ⟨pF, by repeat (first | exact Drawn0.refl _ | apply Drawn0.step)⟩
 subst c3
 rw [if_pos rfl] at H
 have HC4 := aM H
 clear H
 go_enter Try.func51, Try.ntmps51
 go_upto_region 3 with (first | ((with_reducible refine gate_callee (f := 50) rfl ?_); refine goesL_ (some 5) rfl rfl Try.func50 (by kernel_rfl) rfl #[.int .i64 a0] rfl pA ?_; (with_reducible refine (prim_Is.calls a0 true _ A2.out).mono ?_); rintro e w' ⟨rfl, ⟨nd, rfl⟩⟩; refine ⟨_, rfl, ?_⟩))
 (try simp only [Act.put, sP])
 go_cut [7] (fun v7 wc => ∃ (kq : Nat) (x7_3 : Bool), v7 = .bool x7_3 ∧ Aside0 (prim_Arity.j0 kq a0 x7_3 = some r) ∧ Aside0 (kq ≤ k) ∧ Drawn0 w wc)
 case first =>
  have H := HC4.out
  clear HC4
  by_cases c5 : a0 ≥ 17
  ·rw [if_pos c5] at H
   have zb : decide (17 ≤ a0) = true := decide_eq_true c5
   clear c5
   (first | rw [zb] | (simp only [i64_w, i32_w]; rw [zb]) | skip)
   have H' := aM H
   clear H
   go_wp2
   go_meet
   case rel => exact ⟨_, (decide (a0 ≤ 23)), (pF), H', ⟨by first | omega | exact Nat.le_refl _⟩, by repeat (first | exact Drawn0.refl _ | apply Drawn0.step)⟩
  rw [if_neg c5] at H
  have zb : decide (17 ≤ a0) = false := decide_eq_false c5
  clear c5
  (first | rw [zb] | (simp only [i64_w, i32_w]; rw [zb]) | skip)
  have H' := aM H
  clear H
  go_wp2
  go_meet
  case rel => exact ⟨_, (false), (pF), H', ⟨by first | omega | exact Nat.le_refl _⟩, by repeat (first | exact Drawn0.refl _ | apply Drawn0.step)⟩
 case rest =>
  clear HC4
  try clear c3
  obtain ⟨kq, x7_3, rfl, HA, HJ3, ⟨mc3, rfl⟩⟩ := hcut
  cases kq with
  | zero => exact absurd HA.out (by simp [prim_Arity.j0])
  | succ kj3 =>
   have H := HA.out
   clear HA
   simp only [prim_Arity.j0] at H
   have HC6 := aM H
   clear H
   go_upto_if 7 with (fail)
   go_cut [7] (fun v7 wc => ∃ (kq : Nat) (x7_5 : Bool), v7 = .bool x7_5 ∧ Aside0 (prim_Arity.j1 kq a0 x7_5 = some r) ∧ Aside0 (kq ≤ kj3) ∧ Drawn0 w wc)
   case first =>
    have H := HC6.out
    clear HC6
    by_cases c7 : x7_3 = true
    ·subst c7
     rw [if_pos rfl] at H
     have H' := aM H
     clear H
     go_wp2
     go_meet
     case rel => exact ⟨_, (true), (pF), H', ⟨by have := HJ3.out; first | omega | exact Nat.le_refl _⟩, by repeat (first | exact Drawn0.refl _ | apply Drawn0.step)⟩
    replace c7 := Bool.eq_false_iff.mpr c7
    subst c7
    rw [if_neg (show ¬ (false = true) by decide)] at H
    by_cases c8 : a0 = 32
    rotate_left
    ·rw [if_neg c8] at H
     have zc : (a0 == 32) = false := beq_eq_false_iff_ne.mpr c8
     have c8b1 : (a0 != 32) = true := bne_iff_ne.mpr c8
     (first | rw [zc] | (simp only [i64_w, i32_w]; rw [zc]) | skip)
     have H' := aM H
     clear H
     go_wp2
     go_meet
     case rel => exact ⟨_, ((a0 == 40)), (pF), H', ⟨by have := HJ3.out; first | omega | exact Nat.le_refl _⟩, by repeat (first | exact Drawn0.refl _ | apply Drawn0.step)⟩
    rw [if_pos c8] at H
    have zc : (a0 == 32) = true := beq_iff_eq.mpr c8
    have c8b1 : (a0 != 32) = false := bne_eq_false_iff_eq.mpr c8
    clear c8
    (first | rw [zc] | (simp only [i64_w, i32_w]; rw [zc]) | skip)
    have H' := aM H
    clear H
    go_wp2
    go_meet
    case rel => exact ⟨_, ((a0 == 32)), (pF), H', ⟨by have := HJ3.out; first | omega | exact Nat.le_refl _⟩, by repeat (first | exact Drawn0.refl _ | apply Drawn0.step)⟩
   case rest =>
    clear HC6
    obtain ⟨kq, x7_5, rfl, HA, HJ5, ⟨mc5, rfl⟩⟩ := hcut
    cases kq with
    | zero => exact absurd HA.out (by simp [prim_Arity.j1])
    | succ kj5 =>
     have H := HA.out
     clear HA
     simp only [prim_Arity.j1] at H
     by_cases c9 : x7_5 = true
     ·subst c9
      rw [if_pos rfl] at H
      obtain rfl := Option.some.inj H
      go_wp2
      go_ret
      exact ⟨pF, by repeat (first | exact Drawn0.refl _ | apply Drawn0.step)⟩
     replace c9 := Bool.eq_false_iff.mpr c9
     subst c9
     rw [if_neg (show ¬ (false = true) by decide)] at H
     by_cases c10 : a0 ≥ 24
     rotate_left
     ·rw [if_neg c10] at H
      have c10b0 : decide (24 ≤ a0) = false := decide_eq_false c10
      clear c10
      obtain rfl := Option.some.inj H
      go_wp2
      go_ret
      exact ⟨pF, by repeat (first | exact Drawn0.refl _ | apply Drawn0.step)⟩
     rw [if_pos c10] at H
     have c10b0 : decide (24 ≤ a0) = true := decide_eq_true c10
     clear c10
     by_cases c11 : a0 ≤ 26
     ·rw [if_pos c11] at H
      have c11b0 : decide (a0 ≤ 26) = true := decide_eq_true c11
      clear c11
      obtain rfl := Option.some.inj H
      go_wp2
      go_ret
      exact ⟨pF, by repeat (first | exact Drawn0.refl _ | apply Drawn0.step)⟩
     rw [if_neg c11] at H
     have c11b0 : decide (a0 ≤ 26) = false := decide_eq_false c11
     clear c11
     obtain rfl := Option.some.inj H
     go_wp2
     go_ret
     exact ⟨pF, by repeat (first | exact Drawn0.refl _ | apply Drawn0.step)⟩
def prim_Class.f (a0 : Int) : Option (Int) := (prim_Is.f a0).bind fun za => (if za = true then (if a0 < 27 then (some 1) else (if a0 < 32 then (some 2) else (if a0 = 32 then (some 3) else (if a0 ≤ 37 then (some 4) else (some 5))))) else (some 0))
set_option maxHeartbeats 8000000 in
set_option maxRecDepth 100000 in
theorem prim_Class.calls (a0 : Int) (r : Int) (w : World) (h : prim_Class.f a0 = some r) :
  Calls Try.prog 52 #[.int .i64 a0] w fun e w' => e = .returned (.int .i64 r) ∧ Drawn0 w w' := by
 have H : ((prim_Is.f a0).bind fun za => (if za = true then (if a0 < 27 then (some 1) else (if a0 < 32 then (some 2) else (if a0 = 32 then (some 3) else (if a0 ≤ 37 then (some 4) else (some 5))))) else (some 0))) = some r := h
 clear h
 replace H := Option.bind_eq_some_iff.mp H
 obtain ⟨za, A20, H⟩ := H
 try dsimp only at H
 have A2 := aM A20
 clear A20
 by_cases c3 : za = true
 rotate_left
 ·replace c3 := Bool.eq_false_iff.mpr c3
  subst c3
  rw [if_neg (show ¬ (false = true) by decide)] at H
  obtain rfl := Option.some.inj H
  go_enter Try.func52, Try.ntmps52
  go_wp2_with (first | ((with_reducible refine gate_callee (f := 50) rfl ?_); refine goesL_ (some 5) rfl rfl Try.func50 (by kernel_rfl) rfl #[.int .i64 a0] rfl pA ?_; (with_reducible refine (prim_Is.calls a0 false _ A2.out).mono ?_); rintro e w' ⟨rfl, ⟨nd, rfl⟩⟩; refine ⟨_, rfl, ?_⟩))
  go_ret
  exact ⟨pF, by repeat (first | exact Drawn0.refl _ | apply Drawn0.step)⟩
 subst c3
 rw [if_pos rfl] at H
 by_cases c4 : a0 < 27
 ·rw [if_pos c4] at H
  have c4b0 : decide (a0 < 27) = true := decide_eq_true c4
  clear c4
  obtain rfl := Option.some.inj H
  go_enter Try.func52, Try.ntmps52
  go_wp2_with (first | ((with_reducible refine gate_callee (f := 50) rfl ?_); refine goesL_ (some 5) rfl rfl Try.func50 (by kernel_rfl) rfl #[.int .i64 a0] rfl pA ?_; (with_reducible refine (prim_Is.calls a0 true _ A2.out).mono ?_); rintro e w' ⟨rfl, ⟨nd, rfl⟩⟩; refine ⟨_, rfl, ?_⟩))
  go_ret
  exact ⟨pF, by repeat (first | exact Drawn0.refl _ | apply Drawn0.step)⟩
 rw [if_neg c4] at H
 have c4b0 : decide (a0 < 27) = false := decide_eq_false c4
 clear c4
 by_cases c5 : a0 < 32
 ·rw [if_pos c5] at H
  have c5b0 : decide (a0 < 32) = true := decide_eq_true c5
  clear c5
  obtain rfl := Option.some.inj H
  go_enter Try.func52, Try.ntmps52
  go_wp2_with (first | ((with_reducible refine gate_callee (f := 50) rfl ?_); refine goesL_ (some 5) rfl rfl Try.func50 (by kernel_rfl) rfl #[.int .i64 a0] rfl pA ?_; (with_reducible refine (prim_Is.calls a0 true _ A2.out).mono ?_); rintro e w' ⟨rfl, ⟨nd, rfl⟩⟩; refine ⟨_, rfl, ?_⟩))
  go_ret
  exact ⟨pF, by repeat (first | exact Drawn0.refl _ | apply Drawn0.step)⟩
 rw [if_neg c5] at H
 have c5b0 : decide (a0 < 32) = false := decide_eq_false c5
 clear c5
 by_cases c6 : a0 = 32
 ·rw [if_pos c6] at H
  have c6b0 : (a0 == 32) = true := beq_iff_eq.mpr c6
  have c6b1 : (a0 != 32) = false := bne_eq_false_iff_eq.mpr c6
  clear c6
  obtain rfl := Option.some.inj H
  go_enter Try.func52, Try.ntmps52
  go_wp2_with (first | ((with_reducible refine gate_callee (f := 50) rfl ?_); refine goesL_ (some 5) rfl rfl Try.func50 (by kernel_rfl) rfl #[.int .i64 a0] rfl pA ?_; (with_reducible refine (prim_Is.calls a0 true _ A2.out).mono ?_); rintro e w' ⟨rfl, ⟨nd, rfl⟩⟩; refine ⟨_, rfl, ?_⟩))
  go_ret
  exact ⟨pF, by repeat (first | exact Drawn0.refl _ | apply Drawn0.step)⟩
 rw [if_neg c6] at H
 have c6b0 : (a0 == 32) = false := beq_eq_false_iff_ne.mpr c6
 have c6b1 : (a0 != 32) = true := bne_iff_ne.mpr c6
 by_cases c7 : a0 ≤ 37
 ·rw [if_pos c7] at H
  have c7b0 : decide (a0 ≤ 37) = true := decide_eq_true c7
  clear c7
  obtain rfl := Option.some.inj H
  go_enter Try.func52, Try.ntmps52
  go_wp2_with (first | ((with_reducible refine gate_callee (f := 50) rfl ?_); refine goesL_ (some 5) rfl rfl Try.func50 (by kernel_rfl) rfl #[.int .i64 a0] rfl pA ?_; (with_reducible refine (prim_Is.calls a0 true _ A2.out).mono ?_); rintro e w' ⟨rfl, ⟨nd, rfl⟩⟩; refine ⟨_, rfl, ?_⟩))
  go_ret
  exact ⟨pF, by repeat (first | exact Drawn0.refl _ | apply Drawn0.step)⟩
 rw [if_neg c7] at H
 have c7b0 : decide (a0 ≤ 37) = false := decide_eq_false c7
 clear c7
 obtain rfl := Option.some.inj H
 go_enter Try.func52, Try.ntmps52
 go_wp2_with (first | ((with_reducible refine gate_callee (f := 50) rfl ?_); refine goesL_ (some 5) rfl rfl Try.func50 (by kernel_rfl) rfl #[.int .i64 a0] rfl pA ?_; (with_reducible refine (prim_Is.calls a0 true _ A2.out).mono ?_); rintro e w' ⟨rfl, ⟨nd, rfl⟩⟩; refine ⟨_, rfl, ?_⟩))
 go_ret
 exact ⟨pF, by repeat (first | exact Drawn0.refl _ | apply Drawn0.step)⟩
def reduce_axes.f (a0 : Int) (a1_0 : Int) (a1_1 : Int) (a1_2 : Int) (a1_3 : Int) (a1_4 : Int) (a1_5 : Int) (a1_6 : Int) (a1_7 : Int) (a1_8 : Bool) (l1_9 : List Int) : Option (List Int) := if a0 = 27 then (some l1_9) else (if a0 = 28 then (some l1_9) else (some (([a1_0] : List Int))))
set_option maxHeartbeats 8000000 in
set_option maxRecDepth 100000 in
theorem reduce_axes.calls (a0 : Int) (a1_0 : Int) (a1_1 : Int) (a1_2 : Int) (a1_3 : Int) (a1_4 : Int) (a1_5 : Int) (a1_6 : Int) (a1_7 : Int) (a1_8 : Bool) (A1_9 : Option Addr) (c1_9 : Nat) (l1_9 : List Int) (r : List Int) (w : World) (hr1_9 : Kd.C (Kd.int .i64) w A1_9 l1_9.length l1_9) (hc1_9 : l1_9.length ≤ c1_9) (h : reduce_axes.f a0 a1_0 a1_1 a1_2 a1_3 a1_4 a1_5 a1_6 a1_7 a1_8 l1_9 = some r) :
  Calls Try.prog 78 #[.int .i64 a0, .agg #[.int .i64 a1_0, .int .i64 a1_1, .int .i64 a1_2, .int .i64 a1_3, .int .i64 a1_4, .int .i64 a1_5, .int .i64 a1_6, .int .i64 a1_7, .bool a1_8, .slice A1_9 l1_9.length c1_9]] w fun e w' => ∃ (A_ : Option Addr) (c_ : Nat), e = .returned (.slice A_ r.length c_) ∧ Kd.C (Kd.int .i64) w' A_ r.length r ∧ r.length ≤ c_ ∧ Below w.heap.size w w' := by
 have hu24 := Try.underlying24
 have HR := aM hr1_9
 have HC := aM hc1_9
 clear hr1_9 hc1_9
 have HB := aM (Below.refl w.heap.size w)
 rw [reduce_axes.f] at h
 by_cases c27 : a0 = 27
 ·rw [if_pos c27] at h
  have c27b0 : (a0 == 27) = true := beq_iff_eq.mpr c27
  have c27b1 : (a0 != 27) = false := bne_eq_false_iff_eq.mpr c27
  clear c27
  obtain rfl := Option.some.inj h
  go_enter Try.func78, Try.ntmps78
  go_wp2_with (first | ((with_reducible refine gate_dst (N := 3) rfl ?_); refine box_event ?hg (N := 3) ?hd (cs := #[.int .i64 a1_0, .int .i64 a1_1, .int .i64 a1_2, .int .i64 a1_3, .int .i64 a1_4, .int .i64 a1_5, .int .i64 a1_6, .int .i64 a1_7, .bool a1_8, .slice A1_9 l1_9.length c1_9]) (t := 24) ?hr ?_; (case hd => rfl); (case hg => rfl); (case hr => first | (go_simp; done) | (go_simp; rfl)); intro g hg w9 hbox hb; have BK := aM hbox; have GE := gE (w := w) hg (qB HB); replace HB := bS (qB HB) hb; clear hb hbox hg; obtain ⟨hcz1_0, hcz1_1, hcz1_2, hcz1_3, hcz1_4, hcz1_5, hcz1_6, hcz1_7, hcz1_8, hcz1_9, hfz1_0, hfz1_1, hfz1_2, hfz1_3, hfz1_4, hfz1_5, hfz1_6, hfz1_7, hfz1_8, hfz1_9⟩ := blk10 BK.out))
  go_ret
  exact ⟨_, _, pE, sC HR HB, HC.out, qB1 HB GE⟩
 rw [if_neg c27] at h
 have c27b0 : (a0 == 27) = false := beq_eq_false_iff_ne.mpr c27
 have c27b1 : (a0 != 27) = true := bne_iff_ne.mpr c27
 by_cases c28 : a0 = 28
 ·rw [if_pos c28] at h
  have c28b0 : (a0 == 28) = true := beq_iff_eq.mpr c28
  have c28b1 : (a0 != 28) = false := bne_eq_false_iff_eq.mpr c28
  clear c28
  obtain rfl := Option.some.inj h
  go_enter Try.func78, Try.ntmps78
  go_wp2_with (first | ((with_reducible refine gate_dst (N := 3) rfl ?_); refine box_event ?hg (N := 3) ?hd (cs := #[.int .i64 a1_0, .int .i64 a1_1, .int .i64 a1_2, .int .i64 a1_3, .int .i64 a1_4, .int .i64 a1_5, .int .i64 a1_6, .int .i64 a1_7, .bool a1_8, .slice A1_9 l1_9.length c1_9]) (t := 24) ?hr ?_; (case hd => rfl); (case hg => rfl); (case hr => first | (go_simp; done) | (go_simp; rfl)); intro g hg w9 hbox hb; have BK := aM hbox; have GE := gE (w := w) hg (qB HB); replace HB := bS (qB HB) hb; clear hb hbox hg; obtain ⟨hcz2_0, hcz2_1, hcz2_2, hcz2_3, hcz2_4, hcz2_5, hcz2_6, hcz2_7, hcz2_8, hcz2_9, hfz2_0, hfz2_1, hfz2_2, hfz2_3, hfz2_4, hfz2_5, hfz2_6, hfz2_7, hfz2_8, hfz2_9⟩ := blk10 BK.out))
  go_ret
  exact ⟨_, _, pE, sC HR HB, HC.out, qB1 HB GE⟩
 rw [if_neg c28] at h
 have c28b0 : (a0 == 28) = false := beq_eq_false_iff_ne.mpr c28
 have c28b1 : (a0 != 28) = true := bne_iff_ne.mpr c28
 obtain rfl := Option.some.inj h
 go_enter Try.func78, Try.ntmps78
 go_wp2_with (first | ((with_reducible refine gate_dst (N := 3) rfl ?_); refine box_event ?hg (N := 3) ?hd (cs := #[.int .i64 a1_0, .int .i64 a1_1, .int .i64 a1_2, .int .i64 a1_3, .int .i64 a1_4, .int .i64 a1_5, .int .i64 a1_6, .int .i64 a1_7, .bool a1_8, .slice A1_9 l1_9.length c1_9]) (t := 24) ?hr ?_; (case hd => rfl); (case hg => rfl); (case hr => first | (go_simp; done) | (go_simp; rfl)); intro g hg w9 hbox hb; have BK := aM hbox; have GE := gE (w := w) hg (qB HB); replace HB := bS (qB HB) hb; clear hb hbox hg; obtain ⟨hcz3_0, hcz3_1, hcz3_2, hcz3_3, hcz3_4, hcz3_5, hcz3_6, hcz3_7, hcz3_8, hcz3_9, hfz3_0, hfz3_1, hfz3_2, hfz3_3, hfz3_4, hfz3_5, hfz3_6, hfz3_7, hfz3_8, hfz3_9⟩ := blk10 BK.out) | ((with_reducible refine gate_dst (N := 15) rfl ?_); refine Kd.R_lit (Kd.int .i64) _ 3 ?hg (N := 15) ?hd (xs := ([a1_0] : List Int)) (inner := [.int .i64 a1_0]) (ok := fun _ => True) (okp := fun _ => True) ?hr ?hp (fun _ hk => hk) trivial (Below.refl _ _) (Nat.le_refl _) (by simp) ?_; (case hd => rfl); (case hg => rfl); (case hr => first | (go_simp; done) | (go_simp; rfl)); (case hp => exact (Reps.one (show Kd.M (Kd.int .i64) _ _ _ a1_0 [.int .i64 a1_0] from rfl) (Reps.none _ _))); intro v951 w14 ho15 hb hg_ hnew_; clear hg_ hnew_; have HO := aM ho15; replace BK := bK BK hb; replace HB := bS (qB1 HB GE) hb; clear hb ho15))
 go_ret
 obtain ⟨Ao, co, eo⟩ := Kd.R_slice HO.out
 subst eo
 exact ⟨_, _, pE, sR HO, sL HO, qB1 HB GE⟩
def reduce_Is.f (a0 : Int) : Option (Bool) := if a0 ≥ 27 then (some (decide (a0 ≤ 31))) else (some false)
set_option maxHeartbeats 8000000 in
set_option maxRecDepth 100000 in
theorem reduce_Is.calls (a0 : Int) (r : Bool) (w : World) (h : reduce_Is.f a0 = some r) :
  Calls Try.prog 76 #[.int .i64 a0] w fun e w' => e = .returned (.bool r) ∧ Drawn0 w w' := by
 have H : (if a0 ≥ 27 then (some (decide (a0 ≤ 31))) else (some false)) = some r := h
 clear h
 by_cases c2 : a0 ≥ 27
 ·rw [if_pos c2] at H
  have c2b0 : decide (27 ≤ a0) = true := decide_eq_true c2
  clear c2
  obtain rfl := Option.some.inj H
  go_enter Try.func76, Try.ntmps76
  go_wp2
  go_ret
  exact ⟨pF, by repeat (first | exact Drawn0.refl _ | apply Drawn0.step)⟩
 rw [if_neg c2] at H
 have c2b0 : decide (27 ≤ a0) = false := decide_eq_false c2
 clear c2
 obtain rfl := Option.some.inj H
 go_enter Try.func76, Try.ntmps76
 go_wp2
 go_ret
 exact ⟨pF, by repeat (first | exact Drawn0.refl _ | apply Drawn0.step)⟩
def shape_Drop.l0 : Nat → Bool → List Bool → List Int → List Int → Int → Int → Option (List Int × Int)
 | 0, _, _, _, _, _, _ => none
 | k + 1, x2, x9, x11, x29, x30, x31 => if x31 < x30 then (if 0 ≤ x31 then (if x31 < (x29.length : Int) then (if x31 < (x9.length : Int) then (if rdOf false x9 x31 = true then (if x2 = true then (if x11.length < 17592186044416 then (shape_Drop.l0 k x2 x9 (x11 ++ [1]) x29 x30 (wrap64 (x31 + 1))) else (none)) else (shape_Drop.l0 k x2 x9 x11 x29 x30 (wrap64 (x31 + 1)))) else (if x11.length < 17592186044416 then (shape_Drop.l0 k x2 x9 (x11 ++ [rd x29 x31]) x29 x30 (wrap64 (x31 + 1))) else (none))) else (none)) else (none)) else (none)) else (some (x11, 0))
def shape_Drop.f (k : Nat) (l0 : List Int) (l1 : List Int) (a2 : Bool) : Option (List Int × Int) := (shape_Check.f l0).bind fun zb => (if zb = 0 then ((shape_Axes.f k (l0.length : Int) l1).bind fun bt937 => (if bt937.2 = 0 then (shape_Drop.l0 k a2 bt937.1 ([] : List Int) l0 (l0.length : Int) 0) else (some (([] : List Int), bt937.2)))) else (some (([] : List Int), zb)))
set_option maxHeartbeats 8000000 in
set_option maxRecDepth 100000 in
theorem shape_Drop.calls (k : Nat) (A0 : Option Addr) (c0 : Nat) (l0 : List Int) (A1 : Option Addr) (c1 : Nat) (l1 : List Int) (a2 : Bool) (r1 : List Int) (r2 : Int) (w : World) (hr0 : Kd.C (Kd.int .i64) w A0 l0.length l0) (hc0 : l0.length ≤ c0) (hr1 : Kd.C (Kd.int .i64) w A1 l1.length l1) (hc1 : l1.length ≤ c1) (h : shape_Drop.f k l0 l1 a2 = some (r1, r2)) :
  Calls Try.prog 77 #[.slice A0 l0.length c0, .slice A1 l1.length c1, .bool a2] w fun e w' => ∃ v0_ : Value, e = .returned (.tuple #[v0_, .int .i64 r2]) ∧ Kd.R (Kd.int .i64) 3 w' w.heap.size (fun _ => True) v0_ r1 ∧ Below w.heap.size w w' := by
 have HR0 := aM hr0
 have HC0 := aM hc0
 clear hr0 hc0
 have HR1 := aM hr1
 have HC1 := aM hc1
 clear hr1 hc1
 have HB := aM (Below.refl w.heap.size w)
 have H : ((shape_Check.f l0).bind fun zb => (if zb = 0 then ((shape_Axes.f k (l0.length : Int) l1).bind fun bt937 => (if bt937.2 = 0 then (shape_Drop.l0 k a2 bt937.1 ([] : List Int) l0 (l0.length : Int) 0) else (some (([] : List Int), bt937.2)))) else (some (([] : List Int), zb)))) = some (r1, r2) := h
 clear h
 replace H := Option.bind_eq_some_iff.mp H
 obtain ⟨zb, A40, H⟩ := H
 try dsimp only at H
 have A4 := aM A40
 clear A40
 by_cases c5 : zb = 0
 rotate_left
 ·rw [if_neg c5] at H
  have zi : (zb == 0) = false := beq_eq_false_iff_ne.mpr c5
  have zj : (zb != 0) = true := bne_iff_ne.mpr c5
  simp only [Option.some.injEq, Prod.mk.injEq] at H
  obtain ⟨rfl, rfl⟩ := H
  go_enter Try.func77, Try.ntmps77
  go_wp2_with (first | ((with_reducible refine gate_callee (f := 31) rfl ?_); refine goesL_ (some 15) rfl rfl Try.func31 (by kernel_rfl) rfl #[.slice A0 l0.length c0] rfl pA ?_; (with_reducible refine (shape_Check.calls _ _ l0 zb _ ?s1 ?s2 A4.out).mono ?_); (case s1 => exact pC HR0.out); (case s2 => exact HC0.out); rintro e w' ⟨rfl, ⟨nd, rfl⟩⟩; refine ⟨_, rfl, ?_⟩))
  go_ret2
  exact ⟨_, pE, pN, qB HB⟩
 rw [if_pos c5] at H
 have zi : (zb == 0) = true := beq_iff_eq.mpr c5
 have zj : (zb != 0) = false := bne_eq_false_iff_eq.mpr c5
 clear c5
 replace H := Option.bind_eq_some_iff.mp H
 obtain ⟨⟨za, ze⟩, A60, H⟩ := H
 try dsimp only at H
 have A6 := aM A60
 clear A60
 by_cases c7 : ze = 0
 rotate_left
 ·rw [if_neg c7] at H
  have zk : (ze == 0) = false := beq_eq_false_iff_ne.mpr c7
  have zl : (ze != 0) = true := bne_iff_ne.mpr c7
  simp only [Option.some.injEq, Prod.mk.injEq] at H
  obtain ⟨rfl, rfl⟩ := H
  go_enter Try.func77, Try.ntmps77
  go_wp2_with (first | ((with_reducible refine gate_callee (f := 31) rfl ?_); refine goesL_ (some 15) rfl rfl Try.func31 (by kernel_rfl) rfl #[.slice A0 l0.length c0] rfl pA ?_; (with_reducible refine (shape_Check.calls _ _ l0 zb _ ?s1 ?s2 A4.out).mono ?_); (case s1 => exact pC HR0.out); (case s2 => exact HC0.out); rintro e w' ⟨rfl, ⟨nd, rfl⟩⟩; refine ⟨_, rfl, ?_⟩) | ((with_reducible refine gate_callee (f := 89) rfl ?_); refine goesL_ (some 23) rfl rfl Try.func89 (by kernel_rfl) rfl #[.int .i64 (l0.length : Int), .slice A1 l1.length c1] rfl pA ?_; (with_reducible refine (shape_Axes.calls k (l0.length : Int) _ _ l1 za ze _ ?s1 ?s2 A6.out).mono ?_); (case s1 => exact pC HR1.out); (case s2 => exact HC1.out); rintro e w23 ⟨zm, rfl, ho0, hb⟩; refine ⟨_, rfl, ?_⟩; have zh := aM (Kd.R_lower ho0 (below_size (qB HB))); replace HB := bS (qB HB) hb; (try clear hb); (try clear hk); (try clear hi); (try clear ho0)))
  go_ret2
  exact ⟨_, pE, pN, qB HB⟩
 rw [if_pos c7] at H
 have zk : (ze == 0) = true := beq_iff_eq.mpr c7
 have zl : (ze != 0) = false := bne_eq_false_iff_eq.mpr c7
 clear c7
 have H' := aM H
 clear H
 go_enter Try.func77, Try.ntmps77
 go_wp2_with (first | ((with_reducible refine gate_callee (f := 31) rfl ?_); refine goesL_ (some 15) rfl rfl Try.func31 (by kernel_rfl) rfl #[.slice A0 l0.length c0] rfl pA ?_; (with_reducible refine (shape_Check.calls _ _ l0 zb _ ?s1 ?s2 A4.out).mono ?_); (case s1 => exact pC HR0.out); (case s2 => exact HC0.out); rintro e w' ⟨rfl, ⟨nd, rfl⟩⟩; refine ⟨_, rfl, ?_⟩) | ((with_reducible refine gate_callee (f := 89) rfl ?_); refine goesL_ (some 23) rfl rfl Try.func89 (by kernel_rfl) rfl #[.int .i64 (l0.length : Int), .slice A1 l1.length c1] rfl pA ?_; (with_reducible refine (shape_Axes.calls k (l0.length : Int) _ _ l1 za ze _ ?s1 ?s2 A6.out).mono ?_); (case s1 => exact pC HR1.out); (case s2 => exact HC1.out); rintro e w8 ⟨zm, rfl, ho0, hb⟩; refine ⟨_, rfl, ?_⟩; have zh := aM (Kd.R_lower ho0 (below_size (qB HB))); replace HB := bS (qB HB) hb; (try clear hb); (try clear hk); (try clear hi); (try clear ho0)))
 go_loopg [11, 31] k (fun kq v11 v31 w' => ∃ (x11_1 : List Int) (x31_1 : Int), v31 = .int .i64 x31_1 ∧ Aside0 (shape_Drop.l0 kq a2 za x11_1 l0 (l0.length : Int) x31_1 = some (r1, r2)) ∧ Aside0 (kq ≤ k) ∧ Aside0 (Kd.R Kd.bool 4 w' w.heap.size (fun _ => True) zm za) ∧ Aside0 (Kd.R (Kd.int .i64) 3 w' w.heap.size (fun _ => True) v11 x11_1) ∧ Aside0 (Below w.heap.size w w'))
 case atStart => exact ⟨(([] : List Int)), (0), (pF), H', ⟨Nat.le_refl _⟩, ⟨pR zh.out⟩, ⟨pN⟩, ⟨qB HB⟩⟩
 case round =>
  clear H'
  try clear c1
  try clear zi
  try clear zj
  try clear zk
  try clear zl
  obtain ⟨x11_1, x31_1, rfl, HA, HK1, zc, zd, HB⟩ := hrel
  cases gk with
  | zero => exact absurd HA.out (by simp [shape_Drop.l0])
  | succ k1 =>
   have H := HA.out
   clear HA
   simp only [shape_Drop.l0] at H
   by_cases c9 : x31_1 < (l0.length : Int)
   rotate_left
   ·rw [if_neg c9] at H
    have c9b0 : decide (x31_1 < (l0.length : Int)) = false := decide_eq_false c9
    clear c9
    simp only [Option.some.injEq, Prod.mk.injEq] at H
    obtain ⟨rfl, rfl⟩ := H
    go_wp2
    go_ret2
    exact ⟨_, pE, pR zd.out, qB HB⟩
   rw [if_pos c9] at H
   have c9b0 : decide (x31_1 < (l0.length : Int)) = true := decide_eq_true c9
   clear c9
   by_cases c10 : 0 ≤ x31_1
   rotate_left
   ·rw [if_neg c10] at H
    exact absurd H (by simp)
   rw [if_pos c10] at H
   have c10b0 : decide (0 ≤ x31_1) = true := decide_eq_true c10
   clear c10
   by_cases c11 : x31_1 < (l0.length : Int)
   rotate_left
   ·rw [if_neg c11] at H
    exact absurd H (by simp)
   rw [if_pos c11] at H
   have c11b0 : decide (x31_1 < (l0.length : Int)) = true := decide_eq_true c11
   clear c11
   by_cases c12 : x31_1 < (za.length : Int)
   rotate_left
   ·rw [if_neg c12] at H
    exact absurd H (by simp)
   rw [if_pos c12] at H
   have c12b0 : decide (x31_1 < (za.length : Int)) = true := decide_eq_true c12
   clear c12
   obtain ⟨bq13, hbq13⟩ : ∃ b_ : Bool, b_ = (rdOf false za x31_1) := ⟨_, rfl⟩
   replace H : (if bq13 = true then (if a2 = true then (if x11_1.length < 17592186044416 then (shape_Drop.l0 k1 a2 za (x11_1 ++ [1]) l0 (l0.length : Int) (wrap64 (x31_1 + 1))) else (none)) else (shape_Drop.l0 k1 a2 za x11_1 l0 (l0.length : Int) (wrap64 (x31_1 + 1)))) else (if x11_1.length < 17592186044416 then (shape_Drop.l0 k1 a2 za (x11_1 ++ [rd l0 x31_1]) l0 (l0.length : Int) (wrap64 (x31_1 + 1))) else (none))) = some (r1, r2) := by rw [← hbq13] at H; exact H
   have Nbq13 := aM hbq13
   clear hbq13
   by_cases c14 : bq13 = true
   rotate_left
   ·replace c14 := Bool.eq_false_iff.mpr c14
    subst c14
    rw [if_neg (show ¬ (false = true) by decide)] at H
    by_cases c20 : x11_1.length < 17592186044416
    rotate_left
    ·rw [if_neg c20] at H
     exact absurd H (by simp)
    rw [if_pos c20] at H
    have LMc20 := aM c20
    clear c20
    obtain ⟨zn, zf⟩ : ∃ y_ : List Int, y_ = (x11_1 ++ [rd l0 x31_1]) := ⟨_, rfl⟩
    replace H : (shape_Drop.l0 k1 a2 za zn l0 (l0.length : Int) (wrap64 (x31_1 + 1))) = some (r1, r2) := pH zf H
    have Ny946 := aM zf
    clear zf
    have H' := aM H
    clear H
    have p941 : 0 ≤ (x31_1 : Int) := of_decide_eq_true pD
    have q941 : x31_1 < (l0.length : Int) := of_decide_eq_true pD
    obtain ⟨ad941, e941, hx941_0⟩ := Kd.at_int HR0.out x31_1 p941 q941
    cases e941
    replace hx941_0 := (HB.out.cell (World.block_lt_of_cell? w _ hx941_0)).trans hx941_0
    replace p941 := eq_true p941
    replace q941 := eq_true q941
    obtain ⟨Ao21, co21, eo21⟩ := Kd.R_slice zc.out
    subst eo21
    have p942 : 0 ≤ (x31_1 : Int) := of_decide_eq_true pD
    have q942 : x31_1 < (za.length : Int) := of_decide_eq_true pD
    obtain ⟨ad942, e942, hx942_0⟩ := Kd.at_bool (Kd.R_reads' zc.out).2.2 x31_1 p942 q942
    (try rw [← Nbq13.out] at hx942_0)
    cases e942
    replace p942 := eq_true p942
    replace q942 := eq_true q942
    go_wp2_with (first | ((with_reducible refine gate_builtin (b := .append) (xs := #[.tmp 42, .tmp 44]) rfl ?_); at_builtin; refine Kd.R_append (Kd.int .i64) (w0 := w) w.heap.size rfl (.tmp 42) (.tmp 44) 22 3 (.int .i64 0) 8 rfl Try.underlying22 info3 rfl (by decide) (by omega) u11 x11_1 (rd l0 x31_1) [.int .i64 (rd l0 x31_1)] (fun _ => True) (fun _ => False) rfl rfl ?aP (fun _ hk => hk.elim) ?aF ?aO ?aB ?aS ?aL ?_; (case aP => exact rfl); (case aB => exact (qB HB)); (case aF => exact (fun _ _ => trivial)); (case aO => exact (pR zd.out)); (case aS => exact (below_size (qB HB))); (case aL => have := LMc20.out; omega); intro v947 w22 ho hb hg hat; rw [← Ny946.out] at ho; replace zc := aM (Kd.R_over' (pR zc.out) (Kd.R_typed (pR zd.out)) (by decide) hg); replace HB := aM (hb); have HO948 := aM (ho); clear zd; clear ho hb hg hat))
    go_roundg k1
    case measure => have := HK1.out; omega
    case rel => exact ⟨(zn), (wrap64 (x31_1 + 1)), (pF), H', ⟨by have := HK1.out; omega⟩, ⟨pR zc.out⟩, ⟨pR HO948.out⟩, ⟨qB HB⟩⟩
   subst c14
   rw [if_pos rfl] at H
   by_cases c15 : a2 = true
   rotate_left
   ·replace c15 := Bool.eq_false_iff.mpr c15
    subst c15
    rw [if_neg (show ¬ (false = true) by decide)] at H
    have H' := aM H
    clear H
    have p941 : 0 ≤ (x31_1 : Int) := of_decide_eq_true pD
    have q941 : x31_1 < (l0.length : Int) := of_decide_eq_true pD
    obtain ⟨ad941, e941, hx941_0⟩ := Kd.at_int HR0.out x31_1 p941 q941
    cases e941
    replace hx941_0 := (HB.out.cell (World.block_lt_of_cell? w _ hx941_0)).trans hx941_0
    replace p941 := eq_true p941
    replace q941 := eq_true q941
    obtain ⟨Ao19, co19, eo19⟩ := Kd.R_slice zc.out
    subst eo19
    have p942 : 0 ≤ (x31_1 : Int) := of_decide_eq_true pD
    have q942 : x31_1 < (za.length : Int) := of_decide_eq_true pD
    obtain ⟨ad942, e942, hx942_0⟩ := Kd.at_bool (Kd.R_reads' zc.out).2.2 x31_1 p942 q942
    (try rw [← Nbq13.out] at hx942_0)
    cases e942
    replace p942 := eq_true p942
    replace q942 := eq_true q942
    go_wp2
    go_roundg k1
    case measure => have := HK1.out; omega
    case rel => exact ⟨(x11_1), (wrap64 (x31_1 + 1)), (pF), H', ⟨by have := HK1.out; omega⟩, ⟨pR zc.out⟩, ⟨pR zd.out⟩, ⟨qB HB⟩⟩
   subst c15
   rw [if_pos rfl] at H
   by_cases c16 : x11_1.length < 17592186044416
   rotate_left
   ·rw [if_neg c16] at H
    exact absurd H (by simp)
   rw [if_pos c16] at H
   have LMc16 := aM c16
   clear c16
   obtain ⟨zo, zg⟩ : ∃ y_ : List Int, y_ = (x11_1 ++ [1]) := ⟨_, rfl⟩
   replace H : (shape_Drop.l0 k1 true za zo l0 (l0.length : Int) (wrap64 (x31_1 + 1))) = some (r1, r2) := pH zg H
   have Ny943 := aM zg
   clear zg
   have H' := aM H
   clear H
   have p941 : 0 ≤ (x31_1 : Int) := of_decide_eq_true pD
   have q941 : x31_1 < (l0.length : Int) := of_decide_eq_true pD
   obtain ⟨ad941, e941, hx941_0⟩ := Kd.at_int HR0.out x31_1 p941 q941
   cases e941
   replace hx941_0 := (HB.out.cell (World.block_lt_of_cell? w _ hx941_0)).trans hx941_0
   replace p941 := eq_true p941
   replace q941 := eq_true q941
   obtain ⟨Ao17, co17, eo17⟩ := Kd.R_slice zc.out
   subst eo17
   have p942 : 0 ≤ (x31_1 : Int) := of_decide_eq_true pD
   have q942 : x31_1 < (za.length : Int) := of_decide_eq_true pD
   obtain ⟨ad942, e942, hx942_0⟩ := Kd.at_bool (Kd.R_reads' zc.out).2.2 x31_1 p942 q942
   (try rw [← Nbq13.out] at hx942_0)
   cases e942
   replace p942 := eq_true p942
   replace q942 := eq_true q942
   go_wp2_with (first | ((with_reducible refine gate_builtin (b := .append) (xs := #[.tmp 48, .tmp 49]) rfl ?_); at_builtin; refine Kd.R_append (Kd.int .i64) (w0 := w) w.heap.size rfl (.tmp 48) (.tmp 49) 22 3 (.int .i64 0) 8 rfl Try.underlying22 info3 rfl (by decide) (by omega) u11 x11_1 1 [.int .i64 1] (fun _ => True) (fun _ => False) rfl rfl ?aP (fun _ hk => hk.elim) ?aF ?aO ?aB ?aS ?aL ?_; (case aP => exact rfl); (case aB => exact (qB HB)); (case aF => exact (fun _ _ => trivial)); (case aO => exact (pR zd.out)); (case aS => exact (below_size (qB HB))); (case aL => have := LMc16.out; omega); intro v944 w18 ho hb hg hat; rw [← Ny943.out] at ho; replace zc := aM (Kd.R_over' (pR zc.out) (Kd.R_typed (pR zd.out)) (by decide) hg); replace HB := aM (hb); have HO945 := aM (ho); clear zd; clear ho hb hg hat))
   go_roundg k1
   case measure => have := HK1.out; omega
   case rel => exact ⟨(zo), (wrap64 (x31_1 + 1)), (pF), H', ⟨by have := HK1.out; omega⟩, ⟨pR zc.out⟩, ⟨pR HO945.out⟩, ⟨qB HB⟩⟩
def reduce_Dims.f (k : Nat) (a0 : Int) (a1_0 : Int) (a1_1 : Int) (a1_2 : Int) (a1_3 : Int) (a1_4 : Int) (a1_5 : Int) (a1_6 : Int) (a1_7 : Int) (a1_8 : Bool) (l1_9 : List Int) (l2 : List Int) : Option (List Int × Int) := (reduce_Is.f a0).bind fun b_ => if b_ = false then some ([], 14) else (reduce_axes.f a0 a1_0 a1_1 a1_2 a1_3 a1_4 a1_5 a1_6 a1_7 a1_8 l1_9).bind fun t_ => (shape_Drop.f k l2 t_ a1_8).bind fun r_ => some (r_.1, r_.2)
def reduce_Dims.T3 : Bool × List (List Nat × List Nat) := (true, [([], []), ([], []), ([], []), ([1, 2], [1, 2]), ([], []), ([4], [4]), ([0, 3, 5, 3], [0, 3, 5]), ([6], [6]), ([6], [6]), ([7, 6, 0, 1, 2, 3, 4, 5, 6, 7, 8], [7]), ([8, 9, 0, 1, 2, 3, 4, 5, 6, 7, 8, 9], [8])])
def reduce_Dims.B3 : List Nat := [0, 0, 0, 6, 0, 16, 63, 127, 127, 511, 1023]
theorem reduce_Dims.tab3 : rtab .any (opsOf Try.f54 3) = reduce_Dims.T3 := by kernel_rfl
theorem reduce_Dims.bits3 : waitsOk reduce_Dims.T3.2 reduce_Dims.B3 = true := by kernel_rfl
theorem reduce_Dims.drawn {w w' : World} (h : Drawn0 w w') : Below w.heap.size w w' := by
 obtain ⟨nd, rfl⟩ := h
 exact pw_below_drewN (Below.refl _ _) _
set_option maxHeartbeats 8000000 in
set_option maxRecDepth 100000 in
theorem reduce_Dims.calls (k : Nat) (a0 : Int) (a1_0 : Int) (a1_1 : Int) (a1_2 : Int) (a1_3 : Int) (a1_4 : Int) (a1_5 : Int) (a1_6 : Int) (a1_7 : Int) (a1_8 : Bool) (A1_9 : Option Addr) (c1_9 : Nat) (l1_9 : List Int) (A2 : Option Addr) (c2 : Nat) (l2 : List Int) (r1 : List Int) (r2 : Int) (w : World) (hr1_9 : Kd.C (Kd.int .i64) w A1_9 l1_9.length l1_9) (hc1_9 : l1_9.length ≤ c1_9) (hr2 : Kd.C (Kd.int .i64) w A2 l2.length l2) (hc2 : l2.length ≤ c2) (h : reduce_Dims.f k a0 a1_0 a1_1 a1_2 a1_3 a1_4 a1_5 a1_6 a1_7 a1_8 l1_9 l2 = some (r1, r2)) :
  Calls Try.prog 54 #[.int .i64 a0, .agg #[.int .i64 a1_0, .int .i64 a1_1, .int .i64 a1_2, .int .i64 a1_3, .int .i64 a1_4, .int .i64 a1_5, .int .i64 a1_6, .int .i64 a1_7, .bool a1_8, .slice A1_9 l1_9.length c1_9], .slice A2 l2.length c2] w fun e w' => ∃ v0_ : Value, e = .returned (.tuple #[v0_, .int .i64 r2]) ∧ Kd.R (Kd.int .i64) 3 w' w.heap.size (fun _ => True) v0_ r1 ∧ Below w.heap.size w w' := by
 have hu24 := Try.underlying24
 have HR := aM hr1_9
 have HC := aM hc1_9
 have HR2 := aM hr2
 have HC2 := aM hc2
 clear hr1_9 hc1_9 hr2 hc2
 have HB := aM (Below.refl w.heap.size w)
 have H : ((reduce_Is.f a0).bind fun b_ => if b_ = false then some ([], 14) else (reduce_axes.f a0 a1_0 a1_1 a1_2 a1_3 a1_4 a1_5 a1_6 a1_7 a1_8 l1_9).bind fun t_ => (shape_Drop.f k l2 t_ a1_8).bind fun r_ => some (r_.1, r_.2)) = some (r1, r2) := h
 clear h
 replace H := Option.bind_eq_some_iff.mp H
 obtain ⟨b_, E0, H⟩ := H
 have AI := aM E0
 clear E0
 cases b_
 ·rw [if_pos rfl] at H
  simp only [Option.some.injEq, Prod.mk.injEq] at H
  obtain ⟨rfl, rfl⟩ := H
  go_enter Try.func54, Try.ntmps54
  go_wp2_with (first | ((with_reducible refine gate_dst (N := 4) rfl ?_); refine box_event ?hg (N := 4) ?hd (cs := #[.int .i64 a1_0, .int .i64 a1_1, .int .i64 a1_2, .int .i64 a1_3, .int .i64 a1_4, .int .i64 a1_5, .int .i64 a1_6, .int .i64 a1_7, .bool a1_8, .slice A1_9 l1_9.length c1_9]) (t := 24) ?hr ?_; (case hd => rfl); (case hg => rfl); (case hr => first | (go_simp; done) | (go_simp; rfl)); intro g hg w9 hbox hb; have BK := aM hbox; have GE := gE (w := w) hg (qB HB); replace HB := bS (qB HB) hb; clear hb hbox hg; obtain ⟨hcz4_0, hcz4_1, hcz4_2, hcz4_3, hcz4_4, hcz4_5, hcz4_6, hcz4_7, hcz4_8, hcz4_9, hfz4_0, hfz4_1, hfz4_2, hfz4_3, hfz4_4, hfz4_5, hfz4_6, hfz4_7, hfz4_8, hfz4_9⟩ := blk10 BK.out) | ((with_reducible refine gate_callee (f := 76) rfl ?_); refine goesL_ (some 9) rfl rfl Try.func76 (by kernel_rfl) rfl #[.int .i64 a0] rfl pA ?_; (with_reducible refine (reduce_Is.calls a0 false _ AI.out).mono ?_); rintro e w10 ⟨rfl, hd⟩; have hb := reduce_Dims.drawn hd; clear hd; refine ⟨_, rfl, ?_⟩; replace BK := bK BK hb; replace HB := bS (qB1 HB GE) hb; clear hb))
  go_ret2
  exact ⟨_, pE, pN, qB1 HB GE⟩
 rw [if_neg (by simp)] at H
 replace H := Option.bind_eq_some_iff.mp H
 obtain ⟨t_, E0, H⟩ := H
 have AX := aM E0
 clear E0
 replace H := Option.bind_eq_some_iff.mp H
 obtain ⟨⟨x1, x2⟩, E0, H⟩ := H
 have AD := aM E0
 clear E0
 simp only [Option.some.injEq, Prod.mk.injEq] at H
 obtain ⟨rfl, rfl⟩ := H
 go_enter Try.func54, Try.ntmps54
 go_wp2_with (first | ((with_reducible refine gate_dst (N := 4) rfl ?_); refine box_event ?hg (N := 4) ?hd (cs := #[.int .i64 a1_0, .int .i64 a1_1, .int .i64 a1_2, .int .i64 a1_3, .int .i64 a1_4, .int .i64 a1_5, .int .i64 a1_6, .int .i64 a1_7, .bool a1_8, .slice A1_9 l1_9.length c1_9]) (t := 24) ?hr ?_; (case hd => rfl); (case hg => rfl); (case hr => first | (go_simp; done) | (go_simp; rfl)); intro g hg w9 hbox hb; have BK := aM hbox; have GE := gE (w := w) hg (qB HB); replace HB := bS (qB HB) hb; clear hb hbox hg; obtain ⟨hcz5_0, hcz5_1, hcz5_2, hcz5_3, hcz5_4, hcz5_5, hcz5_6, hcz5_7, hcz5_8, hcz5_9, hfz5_0, hfz5_1, hfz5_2, hfz5_3, hfz5_4, hfz5_5, hfz5_6, hfz5_7, hfz5_8, hfz5_9⟩ := blk10 BK.out) | ((with_reducible refine gate_callee (f := 76) rfl ?_); refine goesL_ (some 9) rfl rfl Try.func76 (by kernel_rfl) rfl #[.int .i64 a0] rfl pA ?_; (with_reducible refine (reduce_Is.calls a0 true _ AI.out).mono ?_); rintro e w10 ⟨rfl, hd⟩; have hb := reduce_Dims.drawn hd; clear hd; refine ⟨_, rfl, ?_⟩; replace BK := bK BK hb; replace HB := bS (qB1 HB GE) hb; clear hb))
 replace BK := aM (blk_drew BK.out)
 replace HB := aM (below_drew1 HB.out)
 refine start_ (n := 11) (S := fun w' => w'.cell? ⟨g, 0, none⟩ = some (.int .i64 a1_0) ∧ w'.cell? ⟨g, 1, none⟩ = some (.int .i64 a1_1) ∧ w'.cell? ⟨g, 2, none⟩ = some (.int .i64 a1_2) ∧ w'.cell? ⟨g, 3, none⟩ = some (.int .i64 a1_3) ∧ w'.cell? ⟨g, 4, none⟩ = some (.int .i64 a1_4) ∧ w'.cell? ⟨g, 5, none⟩ = some (.int .i64 a1_5) ∧ w'.cell? ⟨g, 6, none⟩ = some (.int .i64 a1_6) ∧ w'.cell? ⟨g, 7, none⟩ = some (.int .i64 a1_7) ∧ w'.cell? ⟨g, 8, none⟩ = some (.bool a1_8) ∧ w'.cell? ⟨g, 9, none⟩ = some (.slice A1_9 l1_9.length c1_9)) (ds := []) (bm 11 0) (by kernel_rfl) rfl rfl ⟨(blk_cell BK.out 0).trans rfl, (blk_cell BK.out 1).trans rfl, (blk_cell BK.out 2).trans rfl, (blk_cell BK.out 3).trans rfl, (blk_cell BK.out 4).trans rfl, (blk_cell BK.out 5).trans rfl, (blk_cell BK.out 6).trans rfl, (blk_cell BK.out 7).trans rfl, (blk_cell BK.out 8).trans rfl, (blk_cell BK.out 9).trans rfl⟩ (fun hHeld => ?_); refine with_tabW reduce_Dims.tab3 reduce_Dims.bits3 (fun HT_ HW_ => ?_)
 generalize w10.drew = w11 at BK HB hHeld ⊢
 refine pP (i := 0) (N := some 11) (bm 11 1) rfl rfl HT_.out ?_
 refine pP (i := 1) (N := some 12) (bm 11 3) rfl rfl HT_.out ?_
 refine pP (i := 4) (N := some 15) (bm 11 19) rfl rfl HT_.out ?_
 refine pT (i := 2) (N := some 13) (bm 11 23) rfl rfl HT_.out HW_.out hHeld (by rintro w' ⟨s0, s1, s2, s3, s4, s5, s6, s7, s8, s9⟩; go_simp; with_reducible rfl) ?_
 refine pT (i := 5) (N := some 16) (bm 11 55) rfl rfl HT_.out HW_.out hHeld (by rintro w' ⟨s0, s1, s2, s3, s4, s5, s6, s7, s8, s9⟩; go_simp; with_reducible rfl) ?_
 refine one_ (i := 3) (N := some 14) (bm 11 63) rfl rfl (one_of HT_.out (by kernel_rfl)) (by decide) (fun K hK => ?_)
 refine goes_ Try.func78 (by kernel_rfl) rfl #[.int .i64 a0, .agg #[.int .i64 a1_0, .int .i64 a1_1, .int .i64 a1_2, .int .i64 a1_3, .int .i64 a1_4, .int .i64 a1_5, .int .i64 a1_6, .int .i64 a1_7, .bool a1_8, .slice A1_9 l1_9.length c1_9]] (by rfl) rfl rfl pA ?_
 with_reducible refine (reduce_axes.calls a0 a1_0 a1_1 a1_2 a1_3 a1_4 a1_5 a1_6 a1_7 a1_8 A1_9 c1_9 l1_9 t_ _ ?s1 ?s2 AX.out).mono ?_
 (case s1 => exact sC HR HB)
 (case s2 => exact HC.out)
 rintro e w12 ⟨A_, c_, rfl, ha, hc_, hb⟩
 refine ⟨_, rfl, ?_⟩
 have HA := aM ha
 have HCA := aM hc_
 clear ha hc_
 replace BK := bK BK hb
 replace HB := bS (qB1 HB GE) hb
 clear hb
 refine hK.out _ _ ⟨(blk_cell BK.out 0).trans rfl, (blk_cell BK.out 1).trans rfl, (blk_cell BK.out 2).trans rfl, (blk_cell BK.out 3).trans rfl, (blk_cell BK.out 4).trans rfl, (blk_cell BK.out 5).trans rfl, (blk_cell BK.out 6).trans rfl, (blk_cell BK.out 7).trans rfl, (blk_cell BK.out 8).trans rfl, (blk_cell BK.out 9).trans rfl⟩ (fun hHeld => ?_)
 clear hK K
 refine norm_ (a' := ?_) ?_ ?_
 rotate_left
 ·show Act.put _ (some 14) _ = _
  simp only [Act.put, sP, i64_w, i32_w]
  rfl
 refine one_ (i := 6) (N := some 17) (bm 11 127) rfl rfl (one_of HT_.out (by kernel_rfl)) (by decide) (fun K hK => ?_)
 refine goes_ Try.func77 (by kernel_rfl) rfl #[.slice A2 l2.length c2, .slice A_ t_.length c_, .bool a1_8] (by rfl) rfl rfl pA ?_
 with_reducible refine (shape_Drop.calls k _ _ l2 _ _ t_ a1_8 x1 x2 _ ?s1 ?s2 ?s3 ?s4 AD.out).mono ?_
 (case s1 => exact sC HR2 HB)
 (case s2 => exact HC2.out)
 (case s3 => exact HA.out)
 (case s4 => exact HCA.out)
 rintro e w13 ⟨v960, rfl, ho0, hb⟩
 refine ⟨_, rfl, ?_⟩
 have HO := aM (Kd.R_lower ho0 (below_size (qB1 HB GE)))
 replace BK := bK BK hb
 replace HB := bS (qB1 HB GE) hb
 clear hb ho0
 refine hK.out _ _ ⟨(blk_cell BK.out 0).trans rfl, (blk_cell BK.out 1).trans rfl, (blk_cell BK.out 2).trans rfl, (blk_cell BK.out 3).trans rfl, (blk_cell BK.out 4).trans rfl, (blk_cell BK.out 5).trans rfl, (blk_cell BK.out 6).trans rfl, (blk_cell BK.out 7).trans rfl, (blk_cell BK.out 8).trans rfl, (blk_cell BK.out 9).trans rfl⟩ (fun hHeld => ?_)
 clear hK K
 refine norm_ (a' := ?_) ?_ ?_
 rotate_left
 ·show Act.put _ (some 17) _ = _
  simp only [Act.put, sP, i64_w, i32_w]
  rfl
 refine pP (i := 7) (N := some 18) (bm 11 255) rfl rfl HT_.out ?_
 refine pP (i := 8) (N := some 19) (bm 11 511) rfl rfl HT_.out ?_
 refine pP (i := 9) (N := some 6) (bm 11 1023) rfl rfl HT_.out ?_
 refine pP (i := 10) (N := some 7) (bm 11 2047) rfl rfl HT_.out ?_
 refine done_ (done_of HT_.out (by kernel_rfl)) ?_
 try go_wp2
 go_ret2
 exact ⟨_, pE, by (with_reducible repeat (first | apply rA | apply rN | apply rD)); exact HO.out, qB1 HB GE⟩
def spread_All.l0 : Nat → List Int → List (List Int) → Int → Int → Option (List Int × Int)
 | 0, _, _, _, _ => none
 | k + 1, x4, x9, x10, x11 => if x11 < x10 then (if 0 ≤ x11 then (if x11 < (x9.length : Int) then ((spread_Two.f k x4 (rd_L1 x9 x11)).bind fun bt932 => (if bt932.2 = 0 then (spread_All.l0 k bt932.1 x9 x10 (wrap64 (x11 + 1))) else (some (([] : List Int), bt932.2)))) else (none)) else (none)) else (some (x4, 0))
def spread_All.f (k : Nat) (l0 : List (List Int)) : Option (List Int × Int) := spread_All.l0 k ([] : List Int) l0 (l0.length : Int) 0
set_option maxHeartbeats 8000000 in
set_option maxRecDepth 100000 in
theorem spread_All.calls (k : Nat) (A0 : Option Addr) (c0 : Nat) (l0 : List (List Int)) (r1 : List Int) (r2 : Int) (w : World) (hr0 : Kd.C (Kd.slice 3 (Kd.int .i64)) w A0 l0.length l0) (hc0 : l0.length ≤ c0) (h : spread_All.f k l0 = some (r1, r2)) :
  Calls Try.prog 53 #[.slice A0 l0.length c0] w fun e w' => ∃ v0_ : Value, e = .returned (.tuple #[v0_, .int .i64 r2]) ∧ Kd.R (Kd.int .i64) 3 w' w.heap.size (fun _ => True) v0_ r1 ∧ Below w.heap.size w w' := by
 have HR0 := aM hr0
 have HC0 := aM hc0
 clear hr0 hc0
 have HB := aM (Below.refl w.heap.size w)
 have H : (spread_All.l0 k ([] : List Int) l0 (l0.length : Int) 0) = some (r1, r2) := h
 clear h
 have H' := aM H
 clear H
 go_enter Try.func53, Try.ntmps53
 go_wp2
 go_loopg [4, 11] k (fun kq v4 v11 w' => ∃ (x4_1 : List Int) (x11_1 : Int), v11 = .int .i64 x11_1 ∧ Aside0 (spread_All.l0 kq x4_1 l0 (l0.length : Int) x11_1 = some (r1, r2)) ∧ Aside0 (kq ≤ k) ∧ Aside0 (Kd.R (Kd.int .i64) 3 w' w.heap.size (fun _ => True) v4 x4_1) ∧ Aside0 (Below w.heap.size w w'))
 case atStart => exact ⟨(([] : List Int)), (0), (pF), H', ⟨Nat.le_refl _⟩, ⟨pN⟩, ⟨qB HB⟩⟩
 case round =>
  clear H'
  obtain ⟨x4_1, x11_1, rfl, HA, HK1, za, HB⟩ := hrel
  cases gk with
  | zero => exact absurd HA.out (by simp [spread_All.l0])
  | succ k1 =>
   have H := HA.out
   clear HA
   simp only [spread_All.l0] at H
   by_cases c2 : x11_1 < (l0.length : Int)
   rotate_left
   ·rw [if_neg c2] at H
    have c2b0 : decide (x11_1 < (l0.length : Int)) = false := decide_eq_false c2
    clear c2
    simp only [Option.some.injEq, Prod.mk.injEq] at H
    obtain ⟨rfl, rfl⟩ := H
    go_wp2
    go_ret2
    exact ⟨_, pE, pR za.out, qB HB⟩
   rw [if_pos c2] at H
   have c2b0 : decide (x11_1 < (l0.length : Int)) = true := decide_eq_true c2
   clear c2
   by_cases c3 : 0 ≤ x11_1
   rotate_left
   ·rw [if_neg c3] at H
    exact absurd H (by simp)
   rw [if_pos c3] at H
   have c3b0 : decide (0 ≤ x11_1) = true := decide_eq_true c3
   clear c3
   by_cases c4 : x11_1 < (l0.length : Int)
   rotate_left
   ·rw [if_neg c4] at H
    exact absurd H (by simp)
   rw [if_pos c4] at H
   have c4b0 : decide (x11_1 < (l0.length : Int)) = true := decide_eq_true c4
   clear c4
   replace H := Option.bind_eq_some_iff.mp H
   obtain ⟨⟨zf, zd⟩, A50, H⟩ := H
   try dsimp only at H
   have A5 := aM A50
   clear A50
   by_cases c6 : zd = 0
   rotate_left
   ·rw [if_neg c6] at H
    have c6b0 : (zd == 0) = false := beq_eq_false_iff_ne.mpr c6
    have c6b1 : (zd != 0) = true := bne_iff_ne.mpr c6
    simp only [Option.some.injEq, Prod.mk.injEq] at H
    obtain ⟨rfl, rfl⟩ := H
    have p931 : 0 ≤ (x11_1 : Int) := of_decide_eq_true pD
    have q931 : x11_1 < (l0.length : Int) := of_decide_eq_true pD
    obtain ⟨ad931, A931_0, c931_0, e931, hx931_0, hl931_0, hi931_0⟩ := at_L1 HR0.out x11_1 p931 q931
    cases e931
    replace hx931_0 := (HB.out.cell (World.block_lt_of_cell? w _ hx931_0)).trans hx931_0
    have zb := aM hi931_0
    have zc := aM hl931_0
    clear hi931_0 hl931_0
    replace p931 := eq_true p931
    replace q931 := eq_true q931
    obtain ⟨Ao9, co9, eo9⟩ := Kd.R_slice za.out
    subst eo9
    go_wp2_with (first | ((with_reducible refine gate_callee (f := 75) rfl ?_); refine goesL_ (some 18) rfl rfl Try.func75 (by kernel_rfl) rfl #[.slice Ao9 x4_1.length co9, .slice A931_0 (rd_L1 l0 x11_1).length c931_0] rfl pA ?_; (with_reducible refine (spread_Two.calls k1 (fun k_ => some k_ = (.slice Ao9 x4_1.length co9 : Value).ownBlock) _ _ x4_1 (fun k_ => k_ < w.heap.size) _ _ (rd_L1 l0 x11_1) zf zd _ ?s1 ?s2 A5.out).mono ?_); (case s1 => exact Kd.R_V (Kd.R_tight rfl (za.out))); (case s2 => exact Kd.V_mk zc.out (Kd.F_below (Kd.C_F (Kd.heap_int .i64) zb.out) (qB HB))); rintro e w10 ⟨v933, rfl, ho0, hb⟩; refine ⟨_, rfl, ?_⟩; have ze := aM (Kd.R_lower (Kd.R_new' (Kd.R_mono (ok' := fun k_ => True) ho0 (fun _ hk_ => trivial)) (Kd.R_lt (pR za.out))) (below_size (qB HB))); replace za := eR za ho0 hb; replace HB := bS (qB HB) hb; (try clear hb); (try clear hk); (try clear hi); (try clear ho0)))
    go_ret2
    exact ⟨_, pE, pN, qB HB⟩
   rw [if_pos c6] at H
   have c6b0 : (zd == 0) = true := beq_iff_eq.mpr c6
   have c6b1 : (zd != 0) = false := bne_eq_false_iff_eq.mpr c6
   clear c6
   have H' := aM H
   clear H
   have p931 : 0 ≤ (x11_1 : Int) := of_decide_eq_true pD
   have q931 : x11_1 < (l0.length : Int) := of_decide_eq_true pD
   obtain ⟨ad931, A931_0, c931_0, e931, hx931_0, hl931_0, hi931_0⟩ := at_L1 HR0.out x11_1 p931 q931
   cases e931
   replace hx931_0 := (HB.out.cell (World.block_lt_of_cell? w _ hx931_0)).trans hx931_0
   have zb := aM hi931_0
   have zc := aM hl931_0
   clear hi931_0 hl931_0
   replace p931 := eq_true p931
   replace q931 := eq_true q931
   obtain ⟨Ao7, co7, eo7⟩ := Kd.R_slice za.out
   subst eo7
   go_wp2_with (first | ((with_reducible refine gate_callee (f := 75) rfl ?_); refine goesL_ (some 18) rfl rfl Try.func75 (by kernel_rfl) rfl #[.slice Ao7 x4_1.length co7, .slice A931_0 (rd_L1 l0 x11_1).length c931_0] rfl pA ?_; (with_reducible refine (spread_Two.calls k1 (fun k_ => some k_ = (.slice Ao7 x4_1.length co7 : Value).ownBlock) _ _ x4_1 (fun k_ => k_ < w.heap.size) _ _ (rd_L1 l0 x11_1) zf zd _ ?s1 ?s2 A5.out).mono ?_); (case s1 => exact Kd.R_V (Kd.R_tight rfl (za.out))); (case s2 => exact Kd.V_mk zc.out (Kd.F_below (Kd.C_F (Kd.heap_int .i64) zb.out) (qB HB))); rintro e w8 ⟨v933, rfl, ho0, hb⟩; refine ⟨_, rfl, ?_⟩; have ze := aM (Kd.R_lower (Kd.R_new' (Kd.R_mono (ok' := fun k_ => True) ho0 (fun _ hk_ => trivial)) (Kd.R_lt (pR za.out))) (below_size (qB HB))); replace za := eR za ho0 hb; replace HB := bS (qB HB) hb; (try clear hb); (try clear hk); (try clear hi); (try clear ho0)))
   go_roundg k1
   case measure => have := HK1.out; omega
   case rel => exact ⟨(zf), (wrap64 (x11_1 + 1)), (pF), H', ⟨by have := HK1.out; omega⟩, ⟨by (with_reducible repeat (first | apply rA | apply rN | apply rD)); exact Kd.R_mono ze.out (fun _ hk => trivial)⟩, ⟨qB HB⟩⟩
def infer_Dims.l0 : Nat → Int → List (List Int) → List (List Int) → Int → Int → Int → Int → Int → Int → Int → Int → Int → Int → Bool → List Int → Option (List Int × Int)
 | 0, _, _, _, _, _, _, _, _, _, _, _, _, _, _, _ => none
 | k + 1, x0, x2, x19, x20, x21, ze, zf, zg, zh, zi, zj, zk, zl, zm, zn => if x21 < x20 then (if 0 ≤ x21 then (if x21 < (x19.length : Int) then ((shape_Check.f (rd_L1 x19 x21)).bind fun zr => (if zr = 0 then (infer_Dims.l0 k x0 x2 x19 x20 (wrap64 (x21 + 1)) ze zf zg zh zi zj zk zl zm zn) else (some (([] : List Int), zr)))) else (none)) else (none)) else ((infer_Attr.f k x0 ze zf zg zh zi zj zk zl zm zn).bind fun zz => (if zz = true then ((prim_Class.f x0).bind fun zc => (if zc = 1 then ((spread_All.f k x2).bind fun bt986 => (some (bt986.1, bt986.2))) else (if zc = 2 then (if 0 < (x2.length : Int) then ((reduce_Dims.f k x0 ze zf zg zh zi zj zk zl zm zn (rd_L1 x2 0)).bind fun bt991 => (some (bt991.1, bt991.2))) else (none)) else (if zc = 3 then (if 0 < (x2.length : Int) then (if 1 < (x2.length : Int) then ((matmul_Dims.f k (rd_L1 x2 0) (rd_L1 x2 1)).bind fun bt997 => (some (bt997.1, bt997.2))) else (none)) else (none)) else ((move_Dims.f k x0 ze zf zg zh zi zj zk zl zm zn x2).bind fun bt1001 => (some (bt1001.1, bt1001.2))))))) else (some (([] : List Int), 1))))
def infer_Dims.f (k : Nat) (a0 : Int) (a1_0 : Int) (a1_1 : Int) (a1_2 : Int) (a1_3 : Int) (a1_4 : Int) (a1_5 : Int) (a1_6 : Int) (a1_7 : Int) (a1_8 : Bool) (l1_9 : List Int) (l2 : List (List Int)) : Option (List Int × Int) := (prim_Is.f a0).bind fun zy => (if zy = true then ((prim_Arity.f k a0).bind fun zo => (if (l2.length : Int) = zo then (infer_Dims.l0 k a0 l2 l2 (l2.length : Int) 0 a1_0 a1_1 a1_2 a1_3 a1_4 a1_5 a1_6 a1_7 a1_8 l1_9) else (some (([] : List Int), 1)))) else (some (([] : List Int), 14)))
def infer_Dims.T18 : Bool × List (List Nat × List Nat) := (true, [([], []), ([], []), ([], []), ([2], [2]), ([3], [3]), ([0, 1, 4], [0, 1, 4]), ([5], [5]), ([5], [5]), ([6, 5, 0, 1, 2, 3, 4, 5, 6, 7], [6]), ([7, 8, 0, 1, 2, 3, 4, 5, 6, 7, 8], [7])])
def infer_Dims.B18 : List Nat := [0, 0, 0, 4, 12, 31, 63, 63, 255, 511]
theorem infer_Dims.tab18 : rtab .any (opsOf Try.f24 18) = infer_Dims.T18 := by kernel_rfl
theorem infer_Dims.bits18 : waitsOk infer_Dims.T18.2 infer_Dims.B18 = true := by kernel_rfl
def infer_Dims.T20 : Bool × List (List Nat × List Nat) := (true, [([], []), ([0], [0]), ([1], [1]), ([], []), ([3], [3]), ([4], [4]), ([2, 5], [2, 5]), ([6], [6]), ([6], [6]), ([7, 6, 0, 1, 2, 3, 4, 5, 6, 7, 8], [7]), ([8, 9, 0, 1, 2, 3, 4, 5, 6, 7, 8, 9], [8])])
def infer_Dims.B20 : List Nat := [0, 1, 3, 0, 8, 24, 63, 127, 127, 511, 1023]
theorem infer_Dims.tab20 : rtab .any (opsOf Try.f24 20) = infer_Dims.T20 := by kernel_rfl
theorem infer_Dims.bits20 : waitsOk infer_Dims.T20.2 infer_Dims.B20 = true := by kernel_rfl
set_option maxHeartbeats 8000000 in
set_option maxRecDepth 100000 in
theorem infer_Dims.calls (k : Nat) (a0 : Int) (a1_0 : Int) (a1_1 : Int) (a1_2 : Int) (a1_3 : Int) (a1_4 : Int) (a1_5 : Int) (a1_6 : Int) (a1_7 : Int) (a1_8 : Bool) (A1_9 : Option Addr) (c1_9 : Nat) (l1_9 : List Int) (A2 : Option Addr) (c2 : Nat) (l2 : List (List Int)) (r1 : List Int) (r2 : Int) (w : World) (hr1_9 : Kd.C (Kd.int .i64) w A1_9 l1_9.length l1_9) (hc1_9 : l1_9.length ≤ c1_9) (hr2 : Kd.C (Kd.slice 3 (Kd.int .i64)) w A2 l2.length l2) (hc2 : l2.length ≤ c2) (h : infer_Dims.f k a0 a1_0 a1_1 a1_2 a1_3 a1_4 a1_5 a1_6 a1_7 a1_8 l1_9 l2 = some (r1, r2)) :
  Calls Try.prog 24 #[.int .i64 a0, .agg #[.int .i64 a1_0, .int .i64 a1_1, .int .i64 a1_2, .int .i64 a1_3, .int .i64 a1_4, .int .i64 a1_5, .int .i64 a1_6, .int .i64 a1_7, .bool a1_8, .slice A1_9 l1_9.length c1_9], .slice A2 l2.length c2] w fun e w' => ∃ v0_ : Value, e = .returned (.tuple #[v0_, .int .i64 r2]) ∧ Kd.R (Kd.int .i64) 3 w' w.heap.size (fun _ => True) v0_ r1 ∧ Below w.heap.size w w' := by
 have hu24 := Try.underlying24
 have zp := aM hr1_9
 have zq := aM hc1_9
 clear hr1_9 hc1_9
 have HR2 := aM hr2
 have HC2 := aM hc2
 clear hr2 hc2
 have HB := aM (Below.refl w.heap.size w)
 have H : ((prim_Is.f a0).bind fun zy => (if zy = true then ((prim_Arity.f k a0).bind fun zo => (if (l2.length : Int) = zo then (infer_Dims.l0 k a0 l2 l2 (l2.length : Int) 0 a1_0 a1_1 a1_2 a1_3 a1_4 a1_5 a1_6 a1_7 a1_8 l1_9) else (some (([] : List Int), 1)))) else (some (([] : List Int), 14)))) = some (r1, r2) := h
 clear h
 replace H := Option.bind_eq_some_iff.mp H
 obtain ⟨zy, A40, H⟩ := H
 try dsimp only at H
 have A4 := aM A40
 clear A40
 by_cases c5 : zy = true
 rotate_left
 ·replace c5 := Bool.eq_false_iff.mpr c5
  subst c5
  rw [if_neg (show ¬ (false = true) by decide)] at H
  simp only [Option.some.injEq, Prod.mk.injEq] at H
  obtain ⟨rfl, rfl⟩ := H
  go_enter Try.func24, Try.ntmps24
  go_wp2_with (first | ((with_reducible refine gate_dst (N := 4) rfl ?_); refine box_event ?hg (N := 4) ?hd (cs := #[.int .i64 a1_0, .int .i64 a1_1, .int .i64 a1_2, .int .i64 a1_3, .int .i64 a1_4, .int .i64 a1_5, .int .i64 a1_6, .int .i64 a1_7, .bool a1_8, .slice A1_9 l1_9.length c1_9]) (t := 24) ?hr ?_; (case hd => rfl); (case hg => rfl); (case hr => first | (go_simp; done) | (go_simp; rfl)); intro zd hg w45 hbox hb; have za := aM (hbox); have zu := gE (w := w) hg (qB HB); have zb := zu; replace HB := bS (qB HB) hb; clear hb hbox hg) | ((with_reducible refine gate_callee (f := 50) rfl ?_); refine goesL_ (some 12) rfl rfl Try.func50 (by kernel_rfl) rfl #[.int .i64 a0] rfl pA ?_; (with_reducible refine (prim_Is.calls a0 false _ A4.out).mono ?_); rintro e w' ⟨rfl, ⟨nd, rfl⟩⟩; refine ⟨_, rfl, ?_⟩))
  go_ret2
  exact ⟨_, pE, pN, qB1 HB zb⟩
 subst c5
 rw [if_pos rfl] at H
 replace H := Option.bind_eq_some_iff.mp H
 obtain ⟨zo, A60, H⟩ := H
 try dsimp only at H
 have A6 := aM A60
 clear A60
 by_cases c7 : (l2.length : Int) = zo
 rotate_left
 ·rw [if_neg c7] at H
  have z0 : ((l2.length : Int) == zo) = false := beq_eq_false_iff_ne.mpr c7
  have z1 : ((l2.length : Int) != zo) = true := bne_iff_ne.mpr c7
  simp only [Option.some.injEq, Prod.mk.injEq] at H
  obtain ⟨rfl, rfl⟩ := H
  go_enter Try.func24, Try.ntmps24
  go_wp2_with (first | ((with_reducible refine gate_dst (N := 4) rfl ?_); refine box_event ?hg (N := 4) ?hd (cs := #[.int .i64 a1_0, .int .i64 a1_1, .int .i64 a1_2, .int .i64 a1_3, .int .i64 a1_4, .int .i64 a1_5, .int .i64 a1_6, .int .i64 a1_7, .bool a1_8, .slice A1_9 l1_9.length c1_9]) (t := 24) ?hr ?_; (case hd => rfl); (case hg => rfl); (case hr => first | (go_simp; done) | (go_simp; rfl)); intro zd hg w44 hbox hb; have za := aM (hbox); have zu := gE (w := w) hg (qB HB); have zb := zu; replace HB := bS (qB HB) hb; clear hb hbox hg) | ((with_reducible refine gate_callee (f := 50) rfl ?_); refine goesL_ (some 12) rfl rfl Try.func50 (by kernel_rfl) rfl #[.int .i64 a0] rfl pA ?_; (with_reducible refine (prim_Is.calls a0 true _ A4.out).mono ?_); rintro e w' ⟨rfl, ⟨nd, rfl⟩⟩; refine ⟨_, rfl, ?_⟩) | ((with_reducible refine gate_callee (f := 51) rfl ?_); refine goesL_ (some 17) rfl rfl Try.func51 (by kernel_rfl) rfl #[.int .i64 a0] rfl pA ?_; (with_reducible refine (prim_Arity.calls k a0 zo _ A6.out).mono ?_); rintro e w' ⟨rfl, ⟨nd, rfl⟩⟩; refine ⟨_, rfl, ?_⟩))
  go_ret2
  exact ⟨_, pE, pN, qB1 HB zb⟩
 rw [if_pos c7] at H
 have z0 : ((l2.length : Int) == zo) = true := beq_iff_eq.mpr c7
 have z1 : ((l2.length : Int) != zo) = false := bne_eq_false_iff_eq.mpr c7
 clear c7
 have H' := aM H
 clear H
 go_enter Try.func24, Try.ntmps24
 go_wp2_with (first | ((with_reducible refine gate_dst (N := 4) rfl ?_); refine box_event ?hg (N := 4) ?hd (cs := #[.int .i64 a1_0, .int .i64 a1_1, .int .i64 a1_2, .int .i64 a1_3, .int .i64 a1_4, .int .i64 a1_5, .int .i64 a1_6, .int .i64 a1_7, .bool a1_8, .slice A1_9 l1_9.length c1_9]) (t := 24) ?hr ?_; (case hd => rfl); (case hg => rfl); (case hr => first | (go_simp; done) | (go_simp; rfl)); intro zd hg w8 hbox hb; have za := aM (hbox); have zu := gE (w := w) hg (qB HB); have zb := zu; replace HB := bS (qB HB) hb; clear hb hbox hg) | ((with_reducible refine gate_callee (f := 50) rfl ?_); refine goesL_ (some 12) rfl rfl Try.func50 (by kernel_rfl) rfl #[.int .i64 a0] rfl pA ?_; (with_reducible refine (prim_Is.calls a0 true _ A4.out).mono ?_); rintro e w' ⟨rfl, ⟨nd, rfl⟩⟩; refine ⟨_, rfl, ?_⟩) | ((with_reducible refine gate_callee (f := 51) rfl ?_); refine goesL_ (some 17) rfl rfl Try.func51 (by kernel_rfl) rfl #[.int .i64 a0] rfl pA ?_; (with_reducible refine (prim_Arity.calls k a0 zo _ A6.out).mono ?_); rintro e w' ⟨rfl, ⟨nd, rfl⟩⟩; refine ⟨_, rfl, ?_⟩))
 go_loopg [21] k (fun kq v21 w' => ∃ (x21_1 : Int), v21 = .int .i64 x21_1 ∧ Aside0 (infer_Dims.l0 kq a0 l2 l2 (l2.length : Int) x21_1 a1_0 a1_1 a1_2 a1_3 a1_4 a1_5 a1_6 a1_7 a1_8 l1_9 = some (r1, r2)) ∧ Aside0 (kq ≤ k) ∧ Aside0 (w'.heap[zd]? = some (.cells #[.int .i64 a1_0, .int .i64 a1_1, .int .i64 a1_2, .int .i64 a1_3, .int .i64 a1_4, .int .i64 a1_5, .int .i64 a1_6, .int .i64 a1_7, .bool a1_8, (.slice A1_9 l1_9.length c1_9)] 24 (0, 0))) ∧ Aside0 (Below w.heap.size w w'))
 case atStart => exact ⟨(0), (pF), H', ⟨Nat.le_refl _⟩, ⟨pK za.out⟩, ⟨qB1 HB zb⟩⟩
 case round =>
  clear H'
  try clear c2
  try clear c5
  try clear z0
  try clear z1
  obtain ⟨x21_1, rfl, HA, HK1, za, HB⟩ := hrel
  cases gk with
  | zero => exact absurd HA.out (by simp [infer_Dims.l0])
  | succ k1 =>
   have H := HA.out
   clear HA
   simp only [infer_Dims.l0] at H
   by_cases c9 : x21_1 < (l2.length : Int)
   ·rw [if_pos c9] at H
    have c9b0 : decide (x21_1 < (l2.length : Int)) = true := decide_eq_true c9
    clear c9
    by_cases c10 : 0 ≤ x21_1
    rotate_left
    ·rw [if_neg c10] at H
     exact absurd H (by simp)
    rw [if_pos c10] at H
    have c10b0 : decide (0 ≤ x21_1) = true := decide_eq_true c10
    clear c10
    by_cases c11 : x21_1 < (l2.length : Int)
    rotate_left
    ·rw [if_neg c11] at H
     exact absurd H (by simp)
    rw [if_pos c11] at H
    have c11b0 : decide (x21_1 < (l2.length : Int)) = true := decide_eq_true c11
    clear c11
    replace H := Option.bind_eq_some_iff.mp H
    obtain ⟨zr, z2, H⟩ := H
    try dsimp only at H
    have A12 := aM z2
    clear z2
    by_cases c13 : zr = 0
    rotate_left
    ·rw [if_neg c13] at H
     have c13b0 : (zr == 0) = false := beq_eq_false_iff_ne.mpr c13
     have c13b1 : (zr != 0) = true := bne_iff_ne.mpr c13
     simp only [Option.some.injEq, Prod.mk.injEq] at H
     obtain ⟨rfl, rfl⟩ := H
     have p982 : 0 ≤ (x21_1 : Int) := of_decide_eq_true pD
     have q982 : x21_1 < (l2.length : Int) := of_decide_eq_true pD
     obtain ⟨ad982, A982_0, c982_0, e982, hx982_0, hl982_0, hi982_0⟩ := at_L1 HR2.out x21_1 p982 q982
     cases e982
     replace hx982_0 := (HB.out.cell (World.block_lt_of_cell? w _ hx982_0)).trans hx982_0
     have zs := aM hi982_0
     have zt := aM hl982_0
     clear hi982_0 hl982_0
     replace p982 := eq_true p982
     replace q982 := eq_true q982
     go_wp2_with (first | ((with_reducible refine gate_callee (f := 31) rfl ?_); refine goesL_ (some 26) rfl rfl Try.func31 (by kernel_rfl) rfl #[.slice A982_0 (rd_L1 l2 x21_1).length c982_0] rfl pA ?_; (with_reducible refine (shape_Check.calls _ _ (rd_L1 l2 x21_1) zr _ ?s1 ?s2 A12.out).mono ?_); (case s1 => exact sC zs HB); (case s2 => exact zt.out); rintro e w' ⟨rfl, ⟨nd, rfl⟩⟩; refine ⟨_, rfl, ?_⟩))
     go_ret2
     exact ⟨_, pE, pN, qB1 HB zb⟩
    rw [if_pos c13] at H
    have c13b0 : (zr == 0) = true := beq_iff_eq.mpr c13
    have c13b1 : (zr != 0) = false := bne_eq_false_iff_eq.mpr c13
    clear c13
    have H' := aM H
    clear H
    have p982 : 0 ≤ (x21_1 : Int) := of_decide_eq_true pD
    have q982 : x21_1 < (l2.length : Int) := of_decide_eq_true pD
    obtain ⟨ad982, A982_0, c982_0, e982, hx982_0, hl982_0, hi982_0⟩ := at_L1 HR2.out x21_1 p982 q982
    cases e982
    replace hx982_0 := (HB.out.cell (World.block_lt_of_cell? w _ hx982_0)).trans hx982_0
    have zs := aM hi982_0
    have zt := aM hl982_0
    clear hi982_0 hl982_0
    replace p982 := eq_true p982
    replace q982 := eq_true q982
    go_wp2_with (first | ((with_reducible refine gate_callee (f := 31) rfl ?_); refine goesL_ (some 26) rfl rfl Try.func31 (by kernel_rfl) rfl #[.slice A982_0 (rd_L1 l2 x21_1).length c982_0] rfl pA ?_; (with_reducible refine (shape_Check.calls _ _ (rd_L1 l2 x21_1) zr _ ?s1 ?s2 A12.out).mono ?_); (case s1 => exact sC zs HB); (case s2 => exact zt.out); rintro e w' ⟨rfl, ⟨nd, rfl⟩⟩; refine ⟨_, rfl, ?_⟩))
    go_roundg k1
    case measure => have := HK1.out; omega
    case rel => exact ⟨(wrap64 (x21_1 + 1)), (pF), H', ⟨by have := HK1.out; omega⟩, ⟨pK za.out⟩, ⟨qB1 HB zb⟩⟩
   rw [if_neg c9] at H
   have c9b0 : decide (x21_1 < (l2.length : Int)) = false := decide_eq_false c9
   clear c9
   replace H := Option.bind_eq_some_iff.mp H
   obtain ⟨zz, z3, H⟩ := H
   try dsimp only at H
   have A14 := aM z3
   clear z3
   by_cases c15 : zz = true
   rotate_left
   ·replace c15 := Bool.eq_false_iff.mpr c15
    subst c15
    rw [if_neg (show ¬ (false = true) by decide)] at H
    simp only [Option.some.injEq, Prod.mk.injEq] at H
    obtain ⟨rfl, rfl⟩ := H
    obtain ⟨hcz42_0, hcz42_1, hcz42_2, hcz42_3, hcz42_4, hcz42_5, hcz42_6, hcz42_7, hcz42_8, hcz42_9, hfz42_0, hfz42_1, hfz42_2, hfz42_3, hfz42_4, hfz42_5, hfz42_6, hfz42_7, hfz42_8, hfz42_9⟩ := blk10 za.out
    go_wp2_with (first | ((with_reducible refine gate_callee (f := 26) rfl ?_); refine goesL_ (some 33) rfl rfl Try.func26 (by kernel_rfl) rfl #[.int .i64 a0, .agg #[.int .i64 a1_0, .int .i64 a1_1, .int .i64 a1_2, .int .i64 a1_3, .int .i64 a1_4, .int .i64 a1_5, .int .i64 a1_6, .int .i64 a1_7, .bool a1_8, .slice A1_9 l1_9.length c1_9]] rfl pA ?_; (with_reducible refine (infer_Attr.calls k1 a0 a1_0 a1_1 a1_2 a1_3 a1_4 a1_5 a1_6 a1_7 a1_8 _ _ l1_9 false _ ?s1 ?s2 A14.out).mono ?_); (case s1 => exact sC zp HB); (case s2 => exact zq.out); rintro e w43 ⟨rfl, hb⟩; refine ⟨_, rfl, ?_⟩; replace za := bK za hb; replace HB := bS (qB1 HB zb) hb; (try clear hb); (try clear hk); (try clear hi)))
    go_ret2
    exact ⟨_, pE, pN, qB1 HB zb⟩
   subst c15
   rw [if_pos rfl] at H
   replace H := Option.bind_eq_some_iff.mp H
   obtain ⟨zc, z4, H⟩ := H
   try dsimp only at H
   have A16 := aM z4
   clear z4
   by_cases c17 : zc = 1
   ·rw [if_pos c17] at H
    have c17b0 : (zc == 1) = true := beq_iff_eq.mpr c17
    have c17b1 : (zc != 1) = false := bne_eq_false_iff_eq.mpr c17
    clear c17
    replace H := Option.bind_eq_some_iff.mp H
    obtain ⟨⟨t986, t987⟩, z5, H⟩ := H
    try dsimp only at H
    have A18 := aM z5
    clear z5
    simp only [Option.some.injEq, Prod.mk.injEq] at H
    obtain ⟨rfl, rfl⟩ := H
    obtain ⟨hcz19_0, hcz19_1, hcz19_2, hcz19_3, hcz19_4, hcz19_5, hcz19_6, hcz19_7, hcz19_8, hcz19_9, hfz19_0, hfz19_1, hfz19_2, hfz19_3, hfz19_4, hfz19_5, hfz19_6, hfz19_7, hfz19_8, hfz19_9⟩ := blk10 za.out
    go_wp2_with (first | ((with_reducible refine gate_callee (f := 26) rfl ?_); refine goesL_ (some 33) rfl rfl Try.func26 (by kernel_rfl) rfl #[.int .i64 a0, .agg #[.int .i64 a1_0, .int .i64 a1_1, .int .i64 a1_2, .int .i64 a1_3, .int .i64 a1_4, .int .i64 a1_5, .int .i64 a1_6, .int .i64 a1_7, .bool a1_8, .slice A1_9 l1_9.length c1_9]] rfl pA ?_; (with_reducible refine (infer_Attr.calls k1 a0 a1_0 a1_1 a1_2 a1_3 a1_4 a1_5 a1_6 a1_7 a1_8 _ _ l1_9 true _ ?s1 ?s2 A14.out).mono ?_); (case s1 => exact sC zp HB); (case s2 => exact zq.out); rintro e w20 ⟨rfl, hb⟩; refine ⟨_, rfl, ?_⟩; replace za := bK za hb; replace HB := bS (qB1 HB zb) hb; (try clear hb); (try clear hk); (try clear hi)) | ((with_reducible refine gate_callee (f := 52) rfl ?_); refine goesL_ (some 36) rfl rfl Try.func52 (by kernel_rfl) rfl #[.int .i64 a0] rfl pA ?_; (with_reducible refine (prim_Class.calls a0 zc _ A16.out).mono ?_); rintro e w' ⟨rfl, ⟨nd, rfl⟩⟩; refine ⟨_, rfl, ?_⟩) | ((with_reducible refine gate_callee (f := 53) rfl ?_); refine goesL_ (some 40) rfl rfl Try.func53 (by kernel_rfl) rfl #[.slice A2 l2.length c2] rfl pA ?_; (with_reducible refine (spread_All.calls k1 _ _ l2 t986 t987 _ ?s1 ?s2 A18.out).mono ?_); (case s1 => exact pC (Kd.C_below HR2.out (qB1 HB zb))); (case s2 => exact HC2.out); rintro e w21 ⟨v988, rfl, ho0, hb⟩; refine ⟨_, rfl, ?_⟩; have HO989 := aM (Kd.R_lower ho0 (below_size (qB1 HB zb))); replace za := bK za hb; replace HB := bS (qB1 HB zb) hb; (try clear hb); (try clear hk); (try clear hi); (try clear ho0)))
    go_ret2
    exact ⟨_, pE, pR HO989.out, qB1 HB zb⟩
   rw [if_neg c17] at H
   have c17b0 : (zc == 1) = false := beq_eq_false_iff_ne.mpr c17
   have c17b1 : (zc != 1) = true := bne_iff_ne.mpr c17
   by_cases c22 : zc = 2
   ·rw [if_pos c22] at H
    have c22b0 : (zc == 2) = true := beq_iff_eq.mpr c22
    have c22b1 : (zc != 2) = false := bne_eq_false_iff_eq.mpr c22
    clear c22
    by_cases c23 : 0 < (l2.length : Int)
    rotate_left
    ·rw [if_neg c23] at H
     exact absurd H (by simp)
    rw [if_pos c23] at H
    have c23b0 : decide (0 < (l2.length : Int)) = true := decide_eq_true c23
    have c23b1 : decide (0 < l2.length) = true := decide_eq_true (by omega)
    clear c23
    replace H := Option.bind_eq_some_iff.mp H
    obtain ⟨⟨t991, t994⟩, z6, H⟩ := H
    try dsimp only at H
    have A24 := aM z6
    clear z6
    simp only [Option.some.injEq, Prod.mk.injEq] at H
    obtain ⟨rfl, rfl⟩ := H
    obtain ⟨hcz25_0, hcz25_1, hcz25_2, hcz25_3, hcz25_4, hcz25_5, hcz25_6, hcz25_7, hcz25_8, hcz25_9, hfz25_0, hfz25_1, hfz25_2, hfz25_3, hfz25_4, hfz25_5, hfz25_6, hfz25_7, hfz25_8, hfz25_9⟩ := blk10 za.out
    try go_wp2_with (first | ((with_reducible refine gate_callee (f := 26) rfl ?_); refine goesL_ (some 33) rfl rfl Try.func26 (by kernel_rfl) rfl #[.int .i64 a0, .agg #[.int .i64 a1_0, .int .i64 a1_1, .int .i64 a1_2, .int .i64 a1_3, .int .i64 a1_4, .int .i64 a1_5, .int .i64 a1_6, .int .i64 a1_7, .bool a1_8, .slice A1_9 l1_9.length c1_9]] rfl pA ?_; (with_reducible refine (infer_Attr.calls k1 a0 a1_0 a1_1 a1_2 a1_3 a1_4 a1_5 a1_6 a1_7 a1_8 _ _ l1_9 true _ ?s1 ?s2 A14.out).mono ?_); (case s1 => exact sC zp HB); (case s2 => exact zq.out); rintro e w26 ⟨rfl, hb⟩; refine ⟨_, rfl, ?_⟩; replace za := bK za hb; replace HB := bS (qB1 HB zb) hb; (try clear hb); (try clear hk); (try clear hi)) | ((with_reducible refine gate_callee (f := 52) rfl ?_); refine goesL_ (some 36) rfl rfl Try.func52 (by kernel_rfl) rfl #[.int .i64 a0] rfl pA ?_; (with_reducible refine (prim_Class.calls a0 zc _ A16.out).mono ?_); rintro e w' ⟨rfl, ⟨nd, rfl⟩⟩; refine ⟨_, rfl, ?_⟩))
    (try (rw [drewN_self w26]; generalize hq_ : World.drewN w26 _ = w26; have n0_ : Aside0 (w26.heap[zd]? = some (.cells #[.int .i64 a1_0, .int .i64 a1_1, .int .i64 a1_2, .int .i64 a1_3, .int .i64 a1_4, .int .i64 a1_5, .int .i64 a1_6, .int .i64 a1_7, .bool a1_8, .slice A1_9 l1_9.length c1_9] 24 (0, 0))) := ⟨by rw [← hq_]; exact (pK za.out)⟩; have n1_ : Aside0 (Below w.heap.size w w26) := ⟨by rw [← hq_]; exact (qB1 HB zb)⟩; clear za HB hq_; have za := n0_; have HB := n1_; clear n0_ n1_))
    replace za := aM (blk_drew za.out)
    replace HB := aM (below_drew1 HB.out)
    have p990 : 0 ≤ (0 : Int) := (by omega)
    have q990 : 0 < (l2.length : Int) := of_decide_eq_true pD
    obtain ⟨ad990, A990_0, c990_0, e990, hx990_0, hl990_0, hi990_0⟩ := at_L1 HR2.out 0 p990 q990
    have hw990_0 := hx990_0
    (try rw [show ((0 : Int)).toNat = 0 from rfl] at hw990_0)
    (try rw [show 0 * 1 = 0 from rfl] at hw990_0)
    (try rw [Addr.add_zero'] at hw990_0)
    cases e990
    have qi990 : (0 < l2.length) = True := eq_true (by omega)
    (try rw [show ((0 : Int)).toNat = 0 from rfl] at hx990_0)
    (try rw [Addr.add_zero'] at hx990_0)
    replace hx990_0 := (HB.out.cell (World.block_lt_of_cell? w _ hx990_0)).trans hx990_0
    have zv := aM hi990_0
    have HC990_0 := aM hl990_0
    clear hi990_0 hl990_0
    replace p990 := eq_true p990
    replace q990 := eq_true q990
    refine start_ (n := 10) (S := fun w' => w'.cell? ⟨zd, 0, none⟩ = some (.int .i64 a1_0) ∧ w'.cell? ⟨zd, 1, none⟩ = some (.int .i64 a1_1) ∧ w'.cell? ⟨zd, 2, none⟩ = some (.int .i64 a1_2) ∧ w'.cell? ⟨zd, 3, none⟩ = some (.int .i64 a1_3) ∧ w'.cell? ⟨zd, 4, none⟩ = some (.int .i64 a1_4) ∧ w'.cell? ⟨zd, 5, none⟩ = some (.int .i64 a1_5) ∧ w'.cell? ⟨zd, 6, none⟩ = some (.int .i64 a1_6) ∧ w'.cell? ⟨zd, 7, none⟩ = some (.int .i64 a1_7) ∧ w'.cell? ⟨zd, 8, none⟩ = some (.bool a1_8) ∧ w'.cell? ⟨zd, 9, none⟩ = some (.slice A1_9 l1_9.length c1_9) ∧ w'.cell? ad990 = some (.slice A990_0 (rd_L1 l2 0).length c990_0)) (ds := []) (bm 10 0) (by kernel_rfl) rfl rfl ⟨(blk_cell za.out 0).trans rfl, (blk_cell za.out 1).trans rfl, (blk_cell za.out 2).trans rfl, (blk_cell za.out 3).trans rfl, (blk_cell za.out 4).trans rfl, (blk_cell za.out 5).trans rfl, (blk_cell za.out 6).trans rfl, (blk_cell za.out 7).trans rfl, (blk_cell za.out 8).trans rfl, (blk_cell za.out 9).trans rfl, ((HB.out.cell (World.block_lt_of_cell? w _ hw990_0)).trans hw990_0)⟩ (fun hHeld => ?_); refine with_tabW infer_Dims.tab18 infer_Dims.bits18 (fun HT_ HW_ => ?_)
    generalize w26.drew = w27 at za HB zv hx990_0 hHeld ⊢
    refine pP (i := 0) (N := some 45) (bm 10 1) rfl rfl HT_.out ?_
    refine pP (i := 2) (N := some 47) (bm 10 5) rfl rfl HT_.out ?_
    refine pP (i := 3) (N := some 48) (bm 10 13) rfl rfl HT_.out ?_
    refine pT (i := 1) (N := some 46) (bm 10 15) rfl rfl HT_.out HW_.out hHeld (by rintro w' ⟨s0, s1, s2, s3, s4, s5, s6, s7, s8, s9, s10⟩; go_simp; with_reducible rfl) ?_
    refine pT (i := 4) (N := some 49) (bm 10 31) rfl rfl HT_.out HW_.out hHeld (by rintro w' ⟨s0, s1, s2, s3, s4, s5, s6, s7, s8, s9, s10⟩; go_simp; with_reducible rfl) ?_
    refine one_ (i := 5) (N := some 50) (bm 10 63) rfl rfl (one_of HT_.out (by kernel_rfl)) (by decide) (fun K hK => ?_)
    refine goes_ Try.func54 (by kernel_rfl) rfl #[.int .i64 a0, .agg #[.int .i64 a1_0, .int .i64 a1_1, .int .i64 a1_2, .int .i64 a1_3, .int .i64 a1_4, .int .i64 a1_5, .int .i64 a1_6, .int .i64 a1_7, .bool a1_8, .slice A1_9 l1_9.length c1_9], .slice A990_0 (rd_L1 l2 0).length c990_0] (by rfl) rfl rfl pA ?_
    with_reducible refine (reduce_Dims.calls k1 a0 a1_0 a1_1 a1_2 a1_3 a1_4 a1_5 a1_6 a1_7 a1_8 _ _ l1_9 _ _ (rd_L1 l2 0) t991 t994 _ ?s1 ?s2 ?s3 ?s4 A24.out).mono ?_
    (case s1 => exact sC zp HB)
    (case s2 => exact zq.out)
    (case s3 => exact sC zv HB)
    (case s4 => exact HC990_0.out)
    rintro e w28 ⟨v992, rfl, ho0, hb⟩
    refine ⟨_, rfl, ?_⟩
    have HO993 := aM (Kd.R_lower ho0 (below_size (qB1 HB zb)))
    replace za := bK za hb
    replace HB := bS (qB1 HB zb) hb
    (try clear hb)
    (try clear hk)
    (try clear hi)
    (try clear ho0)
    refine hK.out _ _ ⟨(blk_cell za.out 0).trans rfl, (blk_cell za.out 1).trans rfl, (blk_cell za.out 2).trans rfl, (blk_cell za.out 3).trans rfl, (blk_cell za.out 4).trans rfl, (blk_cell za.out 5).trans rfl, (blk_cell za.out 6).trans rfl, (blk_cell za.out 7).trans rfl, (blk_cell za.out 8).trans rfl, (blk_cell za.out 9).trans rfl, ((HB.out.cell (World.block_lt_of_cell? w _ hw990_0)).trans hw990_0)⟩ (fun hHeld => ?_)
    clear hK K
    refine norm_ (a' := ?_) ?_ ?_
    rotate_left
    ·show Act.put _ (some 50) _ = _
     simp only [Act.put, sP, i64_w, i32_w]
     rfl
    refine pP (i := 6) (N := some 51) (bm 10 127) rfl rfl HT_.out ?_
    refine pP (i := 7) (N := some 52) (bm 10 255) rfl rfl HT_.out ?_
    refine pP (i := 8) (N := some 6) (bm 10 511) rfl rfl HT_.out ?_
    refine pP (i := 9) (N := some 7) (bm 10 1023) rfl rfl HT_.out ?_
    refine done_ (done_of HT_.out (by kernel_rfl)) ?_
    try go_wp2
    go_ret2
    exact ⟨_, pE, pR HO993.out, qB1 HB zb⟩
   rw [if_neg c22] at H
   have c22b0 : (zc == 2) = false := beq_eq_false_iff_ne.mpr c22
   have c22b1 : (zc != 2) = true := bne_iff_ne.mpr c22
   by_cases c29 : zc = 3
   rotate_left
   ·rw [if_neg c29] at H
    have c29b0 : (zc == 3) = false := beq_eq_false_iff_ne.mpr c29
    have c29b1 : (zc != 3) = true := bne_iff_ne.mpr c29
    replace H := Option.bind_eq_some_iff.mp H
    obtain ⟨⟨t1001, t1004⟩, z7, H⟩ := H
    try dsimp only at H
    have A37 := aM z7
    clear z7
    simp only [Option.some.injEq, Prod.mk.injEq] at H
    obtain ⟨rfl, rfl⟩ := H
    obtain ⟨hcz38_0, hcz38_1, hcz38_2, hcz38_3, hcz38_4, hcz38_5, hcz38_6, hcz38_7, hcz38_8, hcz38_9, hfz38_0, hfz38_1, hfz38_2, hfz38_3, hfz38_4, hfz38_5, hfz38_6, hfz38_7, hfz38_8, hfz38_9⟩ := blk10 za.out
    go_wp2_with (first | ((with_reducible refine gate_callee (f := 26) rfl ?_); refine goesL_ (some 33) rfl rfl Try.func26 (by kernel_rfl) rfl #[.int .i64 a0, .agg #[.int .i64 a1_0, .int .i64 a1_1, .int .i64 a1_2, .int .i64 a1_3, .int .i64 a1_4, .int .i64 a1_5, .int .i64 a1_6, .int .i64 a1_7, .bool a1_8, .slice A1_9 l1_9.length c1_9]] rfl pA ?_; (with_reducible refine (infer_Attr.calls k1 a0 a1_0 a1_1 a1_2 a1_3 a1_4 a1_5 a1_6 a1_7 a1_8 _ _ l1_9 true _ ?s1 ?s2 A14.out).mono ?_); (case s1 => exact sC zp HB); (case s2 => exact zq.out); rintro e w39 ⟨rfl, hb⟩; refine ⟨_, rfl, ?_⟩; replace za := bK za hb; replace HB := bS (qB1 HB zb) hb; (try clear hb); (try clear hk); (try clear hi)) | ((with_reducible refine gate_callee (f := 52) rfl ?_); refine goesL_ (some 36) rfl rfl Try.func52 (by kernel_rfl) rfl #[.int .i64 a0] rfl pA ?_; (with_reducible refine (prim_Class.calls a0 zc _ A16.out).mono ?_); rintro e w' ⟨rfl, ⟨nd, rfl⟩⟩; refine ⟨_, rfl, ?_⟩; obtain ⟨hcz40_0, hcz40_1, hcz40_2, hcz40_3, hcz40_4, hcz40_5, hcz40_6, hcz40_7, hcz40_8, hcz40_9, hfz40_0, hfz40_1, hfz40_2, hfz40_3, hfz40_4, hfz40_5, hfz40_6, hfz40_7, hfz40_8, hfz40_9⟩ := blk10 za.out) | ((with_reducible refine gate_callee (f := 10) rfl ?_); refine goesL_ (some 67) rfl rfl Try.func10 (by kernel_rfl) rfl #[.int .i64 a0, .agg #[.int .i64 a1_0, .int .i64 a1_1, .int .i64 a1_2, .int .i64 a1_3, .int .i64 a1_4, .int .i64 a1_5, .int .i64 a1_6, .int .i64 a1_7, .bool a1_8, .slice A1_9 l1_9.length c1_9], .slice A2 l2.length c2] rfl pA ?_; (with_reducible refine (move_Dims.calls k1 a0 a1_0 a1_1 a1_2 a1_3 a1_4 a1_5 a1_6 a1_7 a1_8 _ _ l1_9 _ _ l2 t1001 t1004 _ ?s1 ?s2 ?s3 ?s4 A37.out).mono ?_); (case s1 => exact pC (Kd.C_below zp.out (qB1 HB zb))); (case s2 => exact zq.out); (case s3 => exact pC (Kd.C_below HR2.out (qB1 HB zb))); (case s4 => exact HC2.out); rintro e w41 ⟨v1002, rfl, ho0, hb⟩; refine ⟨_, rfl, ?_⟩; have HO1003 := aM (Kd.R_lower ho0 (below_size (qB1 HB zb))); replace za := bK za hb; replace HB := bS (qB1 HB zb) hb; (try clear hb); (try clear hk); (try clear hi); (try clear ho0)))
    go_ret2
    exact ⟨_, pE, pR HO1003.out, qB1 HB zb⟩
   rw [if_pos c29] at H
   have c29b0 : (zc == 3) = true := beq_iff_eq.mpr c29
   have c29b1 : (zc != 3) = false := bne_eq_false_iff_eq.mpr c29
   clear c29
   by_cases c30 : 0 < (l2.length : Int)
   rotate_left
   ·rw [if_neg c30] at H
    exact absurd H (by simp)
   rw [if_pos c30] at H
   have c30b0 : decide (0 < (l2.length : Int)) = true := decide_eq_true c30
   have c30b1 : decide (0 < l2.length) = true := decide_eq_true (by omega)
   clear c30
   by_cases c31 : 1 < (l2.length : Int)
   rotate_left
   ·rw [if_neg c31] at H
    exact absurd H (by simp)
   rw [if_pos c31] at H
   have c31b0 : decide (1 < (l2.length : Int)) = true := decide_eq_true c31
   have c31b1 : decide (1 < l2.length) = true := decide_eq_true (by omega)
   clear c31
   replace H := Option.bind_eq_some_iff.mp H
   obtain ⟨⟨t997, t1000⟩, z8, H⟩ := H
   try dsimp only at H
   have A32 := aM z8
   clear z8
   simp only [Option.some.injEq, Prod.mk.injEq] at H
   obtain ⟨rfl, rfl⟩ := H
   obtain ⟨hcz33_0, hcz33_1, hcz33_2, hcz33_3, hcz33_4, hcz33_5, hcz33_6, hcz33_7, hcz33_8, hcz33_9, hfz33_0, hfz33_1, hfz33_2, hfz33_3, hfz33_4, hfz33_5, hfz33_6, hfz33_7, hfz33_8, hfz33_9⟩ := blk10 za.out
   try go_wp2_with (first | ((with_reducible refine gate_callee (f := 26) rfl ?_); refine goesL_ (some 33) rfl rfl Try.func26 (by kernel_rfl) rfl #[.int .i64 a0, .agg #[.int .i64 a1_0, .int .i64 a1_1, .int .i64 a1_2, .int .i64 a1_3, .int .i64 a1_4, .int .i64 a1_5, .int .i64 a1_6, .int .i64 a1_7, .bool a1_8, .slice A1_9 l1_9.length c1_9]] rfl pA ?_; (with_reducible refine (infer_Attr.calls k1 a0 a1_0 a1_1 a1_2 a1_3 a1_4 a1_5 a1_6 a1_7 a1_8 _ _ l1_9 true _ ?s1 ?s2 A14.out).mono ?_); (case s1 => exact sC zp HB); (case s2 => exact zq.out); rintro e w34 ⟨rfl, hb⟩; refine ⟨_, rfl, ?_⟩; replace za := bK za hb; replace HB := bS (qB1 HB zb) hb; (try clear hb); (try clear hk); (try clear hi)) | ((with_reducible refine gate_callee (f := 52) rfl ?_); refine goesL_ (some 36) rfl rfl Try.func52 (by kernel_rfl) rfl #[.int .i64 a0] rfl pA ?_; (with_reducible refine (prim_Class.calls a0 zc _ A16.out).mono ?_); rintro e w' ⟨rfl, ⟨nd, rfl⟩⟩; refine ⟨_, rfl, ?_⟩))
   (try (rw [drewN_self w34]; generalize hq_ : World.drewN w34 _ = w34; have n0_ : Aside0 (w34.heap[zd]? = some (.cells #[.int .i64 a1_0, .int .i64 a1_1, .int .i64 a1_2, .int .i64 a1_3, .int .i64 a1_4, .int .i64 a1_5, .int .i64 a1_6, .int .i64 a1_7, .bool a1_8, .slice A1_9 l1_9.length c1_9] 24 (0, 0))) := ⟨by rw [← hq_]; exact (pK za.out)⟩; have n1_ : Aside0 (Below w.heap.size w w34) := ⟨by rw [← hq_]; exact (qB1 HB zb)⟩; clear za HB hq_; have za := n0_; have HB := n1_; clear n0_ n1_))
   replace za := aM (blk_drew za.out)
   replace HB := aM (below_drew1 HB.out)
   have p995 : 0 ≤ (0 : Int) := (by omega)
   have q995 : 0 < (l2.length : Int) := of_decide_eq_true pD
   obtain ⟨ad995, A995_0, c995_0, e995, hx995_0, hl995_0, hi995_0⟩ := at_L1 HR2.out 0 p995 q995
   have hw995_0 := hx995_0
   (try rw [show ((0 : Int)).toNat = 0 from rfl] at hw995_0)
   (try rw [show 0 * 1 = 0 from rfl] at hw995_0)
   (try rw [Addr.add_zero'] at hw995_0)
   cases e995
   have qi995 : (0 < l2.length) = True := eq_true (by omega)
   (try rw [show ((0 : Int)).toNat = 0 from rfl] at hx995_0)
   (try rw [Addr.add_zero'] at hx995_0)
   replace hx995_0 := (HB.out.cell (World.block_lt_of_cell? w _ hx995_0)).trans hx995_0
   have zw := aM hi995_0
   have HC995_0 := aM hl995_0
   clear hi995_0 hl995_0
   replace p995 := eq_true p995
   replace q995 := eq_true q995
   have p996 : 0 ≤ (1 : Int) := (by omega)
   have q996 : 1 < (l2.length : Int) := of_decide_eq_true pD
   obtain ⟨ad996, A996_0, c996_0, e996, hx996_0, hl996_0, hi996_0⟩ := at_L1 HR2.out 1 p996 q996
   have hw996_0 := hx996_0
   (try rw [show ((1 : Int)).toNat = 1 from rfl] at hw996_0)
   (try rw [show 1 * 1 = 1 from rfl] at hw996_0)
   (try simp only [Nat.reduceMul, Nat.reduceEqDiff, Go.Addr.add, ↓reduceIte] at hw996_0)
   obtain rfl : ad995 = ad996 := (by injection e996)
   (try simp only [show (1 : Int).toNat = 1 from rfl, Nat.reduceMul, Nat.reduceEqDiff, Go.Addr.add, ↓reduceIte] at hx996_0)
   have qi996 : (1 < l2.length) = True := eq_true (by omega)
   (try rw [show ((1 : Int)).toNat = 1 from rfl] at hx996_0)
   replace hx996_0 := (HB.out.cell (World.block_lt_of_cell? w _ hx996_0)).trans hx996_0
   have zx := aM hi996_0
   have HC996_0 := aM hl996_0
   clear hi996_0 hl996_0
   replace p996 := eq_true p996
   replace q996 := eq_true q996
   refine start_ (n := 11) (S := fun w' => w'.cell? ad995 = some (.slice A995_0 (rd_L1 l2 0).length c995_0) ∧ w'.cell? ⟨ad995.block, ad995.off + 1, none⟩ = some (.slice A996_0 (rd_L1 l2 1).length c996_0)) (ds := []) (bm 11 0) (by kernel_rfl) rfl rfl ⟨((HB.out.cell (World.block_lt_of_cell? w _ hw995_0)).trans hw995_0), ((HB.out.cell (World.block_lt_of_cell? w _ hw996_0)).trans hw996_0)⟩ (fun hHeld => ?_); refine with_tabW infer_Dims.tab20 infer_Dims.bits20 (fun HT_ HW_ => ?_)
   generalize w34.drew = w35 at za HB zw zx hx995_0 hx996_0 hHeld ⊢
   refine pP (i := 0) (N := some 55) (bm 11 1) rfl rfl HT_.out ?_
   refine pP (i := 1) (N := some 56) (bm 11 3) rfl rfl HT_.out ?_
   refine pP (i := 3) (N := some 58) (bm 11 11) rfl rfl HT_.out ?_
   refine pP (i := 4) (N := some 59) (bm 11 27) rfl rfl HT_.out ?_
   refine pT (i := 2) (N := some 57) (bm 11 31) rfl rfl HT_.out HW_.out hHeld (by rintro w' ⟨s0, s1⟩; go_simp; with_reducible rfl) ?_
   refine pT (i := 5) (N := some 60) (bm 11 63) rfl rfl HT_.out HW_.out hHeld (by rintro w' ⟨s0, s1⟩; go_simp; with_reducible rfl) ?_
   refine one_ (i := 6) (N := some 61) (bm 11 127) rfl rfl (one_of HT_.out (by kernel_rfl)) (by decide) (fun K hK => ?_)
   refine goes_ Try.func55 (by kernel_rfl) rfl #[.slice A995_0 (rd_L1 l2 0).length c995_0, .slice A996_0 (rd_L1 l2 1).length c996_0] (by rfl) rfl rfl pA ?_
   with_reducible refine (matmul_Dims.calls k1 (fun k_ => k_ < w.heap.size) _ _ (rd_L1 l2 0) (fun k_ => k_ < w.heap.size) _ _ (rd_L1 l2 1) t997 t1000 _ ?s1 ?s2 A32.out).mono ?_
   (case s1 => exact Kd.V_mk HC995_0.out (Kd.F_below (Kd.C_F (Kd.heap_int .i64) zw.out) (qB1 HB zb)))
   (case s2 => exact Kd.V_mk HC996_0.out (Kd.F_below (Kd.C_F (Kd.heap_int .i64) zx.out) (qB1 HB zb)))
   rintro e w36 ⟨v998, rfl, ho0, hb⟩
   refine ⟨_, rfl, ?_⟩
   have HO999 := aM (Kd.R_lower (Kd.R_mono (ok' := fun k_ => True) ho0 (fun _ hk_ => trivial)) (below_size (qB1 HB zb)))
   replace za := bK za hb
   replace HB := bS (qB1 HB zb) hb
   (try clear hb)
   (try clear hk)
   (try clear hi)
   (try clear ho0)
   refine hK.out _ _ ⟨((HB.out.cell (World.block_lt_of_cell? w _ hw995_0)).trans hw995_0), ((HB.out.cell (World.block_lt_of_cell? w _ hw996_0)).trans hw996_0)⟩ (fun hHeld => ?_)
   clear hK K
   refine norm_ (a' := ?_) ?_ ?_
   rotate_left
   ·show Act.put _ (some 61) _ = _
    simp only [Act.put, sP, i64_w, i32_w]
    rfl
   refine pP (i := 7) (N := some 62) (bm 11 255) rfl rfl HT_.out ?_
   refine pP (i := 8) (N := some 63) (bm 11 511) rfl rfl HT_.out ?_
   refine pP (i := 9) (N := some 6) (bm 11 1023) rfl rfl HT_.out ?_
   refine pP (i := 10) (N := some 7) (bm 11 2047) rfl rfl HT_.out ?_
   refine done_ (done_of HT_.out (by kernel_rfl)) ?_
   try go_wp2
   go_ret2
   exact ⟨_, pE, pR HO999.out, qB1 HB zb⟩
def gradinelaw31_Many.l0 : Nat → List (List Int) → Int → Int → Int → Int → Int → Int → Int → Int → Int → Int → Bool → List Int → Option (Bool)
 | 0, _, _, _, _, _, _, _, _, _, _, _, _, _ => none
 | k + 1, x1, x7, x8, x923000, x923001, x923002, x923003, x923004, x923005, x923006, x923007, x923008, zc => if x8 < x7 then (if 0 ≤ x8 then (if x8 < (x1.length : Int) then (if ((rd_L1 x1 x8).length : Int) > 20 then (some true) else (gradinelaw31_Many.l0 k x1 x7 (wrap64 (x8 + 1)) x923000 x923001 x923002 x923003 x923004 x923005 x923006 x923007 x923008 zc)) else (none)) else (none)) else (if (zc.length : Int) > 80 then (some true) else (some (decide ((x1.length : Int) > 10))))
def gradinelaw31_Many.f (k : Nat) (a0_0 : Int) (a0_1 : Int) (a0_2 : Int) (a0_3 : Int) (a0_4 : Int) (a0_5 : Int) (a0_6 : Int) (a0_7 : Int) (a0_8 : Bool) (l0_9 : List Int) (l1 : List (List Int)) : Option (Bool) := gradinelaw31_Many.l0 k l1 (l1.length : Int) 0 a0_0 a0_1 a0_2 a0_3 a0_4 a0_5 a0_6 a0_7 a0_8 l0_9
set_option maxHeartbeats 8000000 in
set_option maxRecDepth 100000 in
theorem gradinelaw31_Many.calls (k : Nat) (a0_0 : Int) (a0_1 : Int) (a0_2 : Int) (a0_3 : Int) (a0_4 : Int) (a0_5 : Int) (a0_6 : Int) (a0_7 : Int) (a0_8 : Bool) (A0_9 : Option Addr) (c0_9 : Nat) (l0_9 : List Int) (A1 : Option Addr) (c1 : Nat) (l1 : List (List Int)) (r : Bool) (w : World) (hr0_9 : Kd.C (Kd.int .i64) w A0_9 l0_9.length l0_9) (hc0_9 : l0_9.length ≤ c0_9) (hr1 : Kd.C (Kd.slice 3 (Kd.int .i64)) w A1 l1.length l1) (hc1 : l1.length ≤ c1) (h : gradinelaw31_Many.f k a0_0 a0_1 a0_2 a0_3 a0_4 a0_5 a0_6 a0_7 a0_8 l0_9 l1 = some r) :
  Calls Try.prog 22 #[.agg #[.int .i64 a0_0, .int .i64 a0_1, .int .i64 a0_2, .int .i64 a0_3, .int .i64 a0_4, .int .i64 a0_5, .int .i64 a0_6, .int .i64 a0_7, .bool a0_8, .slice A0_9 l0_9.length c0_9], .slice A1 l1.length c1] w fun e w' => e = .returned (.bool r) ∧ Below w.heap.size w w' := by
 have hu24 := Try.underlying24
 have HR0_9 := aM hr0_9
 have HC0_9 := aM hc0_9
 clear hr0_9 hc0_9
 have HR1 := aM hr1
 have HC1 := aM hc1
 clear hr1 hc1
 have HB := aM (Below.refl w.heap.size w)
 have H : (gradinelaw31_Many.l0 k l1 (l1.length : Int) 0 a0_0 a0_1 a0_2 a0_3 a0_4 a0_5 a0_6 a0_7 a0_8 l0_9) = some r := h
 clear h
 have H' := aM H
 clear H
 go_enter Try.func22, Try.ntmps22
 go_wp2_with (first | ((with_reducible refine gate_dst (N := 2) rfl ?_); (try (refine gate_guard (by rfl) ?_; dsimp only)); refine box_event ?hg (N := 2) ?hd (cs := #[.int .i64 a0_0, .int .i64 a0_1, .int .i64 a0_2, .int .i64 a0_3, .int .i64 a0_4, .int .i64 a0_5, .int .i64 a0_6, .int .i64 a0_7, .bool a0_8, .slice A0_9 l0_9.length c0_9]) (t := 24) ?hr ?_; (case hd => rfl); (case hg => rfl); (case hr => first | (go_simp; done) | (go_simp; rfl)); intro gb922 hg w3 hbox hb; have za := aM (hbox); have GW922 := gE (w := w) hg (qB HB); have zb := GW922; replace HB := bS (qB HB) hb; clear hb hbox hg))
 go_loopg [8] k (fun kq v8 w' => ∃ (x8_1 : Int), v8 = .int .i64 x8_1 ∧ Aside0 (gradinelaw31_Many.l0 kq l1 (l1.length : Int) x8_1 a0_0 a0_1 a0_2 a0_3 a0_4 a0_5 a0_6 a0_7 a0_8 l0_9 = some r) ∧ Aside0 (kq ≤ k) ∧ Aside0 (w'.heap[gb922]? = some (.cells #[.int .i64 a0_0, .int .i64 a0_1, .int .i64 a0_2, .int .i64 a0_3, .int .i64 a0_4, .int .i64 a0_5, .int .i64 a0_6, .int .i64 a0_7, .bool a0_8, (.slice A0_9 l0_9.length c0_9)] 24 (0, 0))) ∧ Aside0 (Below w.heap.size w w'))
 case atStart => exact ⟨(0), (pF), H', ⟨Nat.le_refl _⟩, ⟨pK za.out⟩, ⟨qB1 HB zb⟩⟩
 case round =>
  clear H'
  try clear c1
  obtain ⟨x8_1, rfl, HA, HK1, za, HB⟩ := hrel
  cases gk with
  | zero => exact absurd HA.out (by simp [gradinelaw31_Many.l0])
  | succ k1 =>
   have H := HA.out
   clear HA
   simp only [gradinelaw31_Many.l0] at H
   by_cases c4 : x8_1 < (l1.length : Int)
   rotate_left
   ·rw [if_neg c4] at H
    have c4b0 : decide (x8_1 < (l1.length : Int)) = false := decide_eq_false c4
    clear c4
    by_cases c8 : (l0_9.length : Int) > 80
    ·rw [if_pos c8] at H
     have c8b0 : decide (80 < (l0_9.length : Int)) = true := decide_eq_true c8
     have c8b1 : decide (80 < l0_9.length) = true := decide_eq_true (by omega)
     clear c8
     obtain rfl := Option.some.inj H
     obtain ⟨hcz9_0, hcz9_1, hcz9_2, hcz9_3, hcz9_4, hcz9_5, hcz9_6, hcz9_7, hcz9_8, hcz9_9, hfz9_0, hfz9_1, hfz9_2, hfz9_3, hfz9_4, hfz9_5, hfz9_6, hfz9_7, hfz9_8, hfz9_9⟩ := blk10 za.out
     go_wp2
     go_ret
     exact ⟨pE, qB1 HB zb⟩
    rw [if_neg c8] at H
    have c8b0 : decide (80 < (l0_9.length : Int)) = false := decide_eq_false c8
    have c8b1 : decide (80 < l0_9.length) = false := decide_eq_false (by omega)
    clear c8
    obtain rfl := Option.some.inj H
    obtain ⟨hcz10_0, hcz10_1, hcz10_2, hcz10_3, hcz10_4, hcz10_5, hcz10_6, hcz10_7, hcz10_8, hcz10_9, hfz10_0, hfz10_1, hfz10_2, hfz10_3, hfz10_4, hfz10_5, hfz10_6, hfz10_7, hfz10_8, hfz10_9⟩ := blk10 za.out
    go_wp2
    go_ret
    exact ⟨pE, qB1 HB zb⟩
   rw [if_pos c4] at H
   have c4b0 : decide (x8_1 < (l1.length : Int)) = true := decide_eq_true c4
   clear c4
   by_cases c5 : 0 ≤ x8_1
   rotate_left
   ·rw [if_neg c5] at H
    exact absurd H (by simp)
   rw [if_pos c5] at H
   have c5b0 : decide (0 ≤ x8_1) = true := decide_eq_true c5
   clear c5
   by_cases c6 : x8_1 < (l1.length : Int)
   rotate_left
   ·rw [if_neg c6] at H
    exact absurd H (by simp)
   rw [if_pos c6] at H
   have c6b0 : decide (x8_1 < (l1.length : Int)) = true := decide_eq_true c6
   clear c6
   by_cases c7 : ((rd_L1 l1 x8_1).length : Int) > 20
   ·rw [if_pos c7] at H
    have c7b0 : decide (20 < ((rd_L1 l1 x8_1).length : Int)) = true := decide_eq_true c7
    have c7b1 : decide (20 < (rd_L1 l1 x8_1).length) = true := decide_eq_true (by omega)
    clear c7
    obtain rfl := Option.some.inj H
    have p923 : 0 ≤ (x8_1 : Int) := of_decide_eq_true pD
    have q923 : x8_1 < (l1.length : Int) := of_decide_eq_true pD
    obtain ⟨ad923, A923_0, c923_0, e923, hx923_0, hl923_0, hi923_0⟩ := at_L1 HR1.out x8_1 p923 q923
    cases e923
    replace hx923_0 := (HB.out.cell (World.block_lt_of_cell? w _ hx923_0)).trans hx923_0
    have HR923_0 := aM hi923_0
    have HC923_0 := aM hl923_0
    clear hi923_0 hl923_0
    replace p923 := eq_true p923
    replace q923 := eq_true q923
    go_wp2
    go_ret
    exact ⟨pE, qB1 HB zb⟩
   rw [if_neg c7] at H
   have c7b0 : decide (20 < ((rd_L1 l1 x8_1).length : Int)) = false := decide_eq_false c7
   have c7b1 : decide (20 < (rd_L1 l1 x8_1).length) = false := decide_eq_false (by omega)
   clear c7
   have H' := aM H
   clear H
   have p923 : 0 ≤ (x8_1 : Int) := of_decide_eq_true pD
   have q923 : x8_1 < (l1.length : Int) := of_decide_eq_true pD
   obtain ⟨ad923, A923_0, c923_0, e923, hx923_0, hl923_0, hi923_0⟩ := at_L1 HR1.out x8_1 p923 q923
   cases e923
   replace hx923_0 := (HB.out.cell (World.block_lt_of_cell? w _ hx923_0)).trans hx923_0
   have HR923_0 := aM hi923_0
   have HC923_0 := aM hl923_0
   clear hi923_0 hl923_0
   replace p923 := eq_true p923
   replace q923 := eq_true q923
   go_wp2
   go_roundg k1
   case measure => have := HK1.out; omega
   case rel => exact ⟨(wrap64 (x8_1 + 1)), (pF), H', ⟨by have := HK1.out; omega⟩, ⟨pK za.out⟩, ⟨qB1 HB zb⟩⟩
def gradinelaw31_same0.f (k : Nat)  : Option (Bool) := (infer_Dims.f k 17 0 0 0 0 0 0 0 0 false ([] : List Int) (([(([2, 1] : List Int)), (([3] : List Int))] : List (List Int)))).bind fun bt1014 => ((infer_Dims.f k 15 0 0 0 0 1 1 1 2 false ([] : List Int) (([[]] : List (List Int)))).bind fun bt1021 => (if (bt1014.1.length : Int) = 2 then (if 0 < (bt1014.1.length : Int) then (if (rd bt1014.1 0) = 2 then (if 1 < (bt1014.1.length : Int) then (if (rd bt1014.1 1) = 3 then (if bt1014.2 = 0 then (some (bt1021.2 == 1)) else (some false)) else (some false)) else (none)) else (some false)) else (none)) else (some false)))
set_option maxHeartbeats 8000000 in
set_option maxRecDepth 100000 in
theorem gradinelaw31_same0.calls (k : Nat)  (w : World) (h : gradinelaw31_same0.f k  = some true) :
  Calls Try.prog 23 #[] w fun e w' => e = .returned (.bool true) ∧ Below w.heap.size w w' := by
 have hu24 := Try.underlying24
 have HB := aM (Below.refl w.heap.size w)
 have H : ((infer_Dims.f k 17 0 0 0 0 0 0 0 0 false ([] : List Int) (([(([2, 1] : List Int)), (([3] : List Int))] : List (List Int)))).bind fun bt1014 => ((infer_Dims.f k 15 0 0 0 0 1 1 1 2 false ([] : List Int) (([[]] : List (List Int)))).bind fun bt1021 => (if (bt1014.1.length : Int) = 2 then (if 0 < (bt1014.1.length : Int) then (if (rd bt1014.1 0) = 2 then (if 1 < (bt1014.1.length : Int) then (if (rd bt1014.1 1) = 3 then (if bt1014.2 = 0 then (some (bt1021.2 == 1)) else (some false)) else (some false)) else (none)) else (some false)) else (none)) else (some false)))) = some true := h
 clear h
 obtain ⟨ze, zk⟩ : ∃ y_ : List Int, y_ = (([2, 1] : List Int)) := ⟨_, rfl⟩
 replace H : ((infer_Dims.f k 17 0 0 0 0 0 0 0 0 false ([] : List Int) (([ze, (([3] : List Int))] : List (List Int)))).bind fun bt1014 => ((infer_Dims.f k 15 0 0 0 0 1 1 1 2 false ([] : List Int) (([[]] : List (List Int)))).bind fun bt1021 => (if (bt1014.1.length : Int) = 2 then (if 0 < (bt1014.1.length : Int) then (if (rd bt1014.1 0) = 2 then (if 1 < (bt1014.1.length : Int) then (if (rd bt1014.1 1) = 3 then (if bt1014.2 = 0 then (some (bt1021.2 == 1)) else (some false)) else (some false)) else (none)) else (some false)) else (none)) else (some false)))) = some true := pH zk H
 have zo := aM zk
 clear zk
 obtain ⟨zh, zl⟩ : ∃ y_ : List Int, y_ = (([3] : List Int)) := ⟨_, rfl⟩
 replace H : ((infer_Dims.f k 17 0 0 0 0 0 0 0 0 false ([] : List Int) (([ze, zh] : List (List Int)))).bind fun bt1014 => ((infer_Dims.f k 15 0 0 0 0 1 1 1 2 false ([] : List Int) (([[]] : List (List Int)))).bind fun bt1021 => (if (bt1014.1.length : Int) = 2 then (if 0 < (bt1014.1.length : Int) then (if (rd bt1014.1 0) = 2 then (if 1 < (bt1014.1.length : Int) then (if (rd bt1014.1 1) = 3 then (if bt1014.2 = 0 then (some (bt1021.2 == 1)) else (some false)) else (some false)) else (none)) else (some false)) else (none)) else (some false)))) = some true := pH zl H
 have zp := aM zl
 clear zl
 obtain ⟨zi, zm⟩ : ∃ y_ : List (List Int), y_ = (([ze, zh] : List (List Int))) := ⟨_, rfl⟩
 replace H : ((infer_Dims.f k 17 0 0 0 0 0 0 0 0 false ([] : List Int) zi).bind fun bt1014 => ((infer_Dims.f k 15 0 0 0 0 1 1 1 2 false ([] : List Int) (([[]] : List (List Int)))).bind fun bt1021 => (if (bt1014.1.length : Int) = 2 then (if 0 < (bt1014.1.length : Int) then (if (rd bt1014.1 0) = 2 then (if 1 < (bt1014.1.length : Int) then (if (rd bt1014.1 1) = 3 then (if bt1014.2 = 0 then (some (bt1021.2 == 1)) else (some false)) else (some false)) else (none)) else (some false)) else (none)) else (some false)))) = some true := pH zm H
 have zq := aM zm
 clear zm
 replace H := Option.bind_eq_some_iff.mp H
 obtain ⟨⟨za, zf⟩, A10, H⟩ := H
 try dsimp only at H
 have A1 := aM A10
 clear A10
 obtain ⟨zr, zn⟩ : ∃ y_ : List (List Int), y_ = (([[]] : List (List Int))) := ⟨_, rfl⟩
 replace H : ((infer_Dims.f k 15 0 0 0 0 1 1 1 2 false ([] : List Int) zr).bind fun bt1021 => (if (za.length : Int) = 2 then (if 0 < (za.length : Int) then (if (rd za 0) = 2 then (if 1 < (za.length : Int) then (if (rd za 1) = 3 then (if zf = 0 then (some (bt1021.2 == 1)) else (some false)) else (some false)) else (none)) else (some false)) else (none)) else (some false))) = some true := pH zn H
 have zs := aM zn
 clear zn
 replace H := Option.bind_eq_some_iff.mp H
 obtain ⟨⟨t1021, t1024⟩, A20, H⟩ := H
 try dsimp only at H
 have A2 := aM A20
 clear A20
 by_cases c3 : (za.length : Int) = 2
 rotate_left
 ·rw [if_neg c3] at H
  have c3b0 : ((za.length : Int) == 2) = false := beq_eq_false_iff_ne.mpr c3
  have c3b1 : ((za.length : Int) != 2) = true := bne_iff_ne.mpr c3
  exact absurd H (by simp)
 rw [if_pos c3] at H
 have c3b0 : ((za.length : Int) == 2) = true := beq_iff_eq.mpr c3
 have c3b1 : ((za.length : Int) != 2) = false := bne_eq_false_iff_eq.mpr c3
 clear c3
 by_cases c4 : 0 < (za.length : Int)
 rotate_left
 ·rw [if_neg c4] at H
  exact absurd H (by simp)
 rw [if_pos c4] at H
 have c4b0 : decide (0 < (za.length : Int)) = true := decide_eq_true c4
 have c4b1 : decide (0 < za.length) = true := decide_eq_true (by omega)
 clear c4
 by_cases c5 : (rd za 0) = 2
 rotate_left
 ·rw [if_neg c5] at H
  have c5b0 : ((rd za 0) == 2) = false := beq_eq_false_iff_ne.mpr c5
  have c5b1 : ((rd za 0) != 2) = true := bne_iff_ne.mpr c5
  exact absurd H (by simp)
 rw [if_pos c5] at H
 have c5b0 : ((rd za 0) == 2) = true := beq_iff_eq.mpr c5
 have c5b1 : ((rd za 0) != 2) = false := bne_eq_false_iff_eq.mpr c5
 clear c5
 by_cases c6 : 1 < (za.length : Int)
 rotate_left
 ·rw [if_neg c6] at H
  exact absurd H (by simp)
 rw [if_pos c6] at H
 have c6b0 : decide (1 < (za.length : Int)) = true := decide_eq_true c6
 have c6b1 : decide (1 < za.length) = true := decide_eq_true (by omega)
 clear c6
 by_cases c7 : (rd za 1) = 3
 rotate_left
 ·rw [if_neg c7] at H
  have c7b0 : ((rd za 1) == 3) = false := beq_eq_false_iff_ne.mpr c7
  have c7b1 : ((rd za 1) != 3) = true := bne_iff_ne.mpr c7
  exact absurd H (by simp)
 rw [if_pos c7] at H
 have c7b0 : ((rd za 1) == 3) = true := beq_iff_eq.mpr c7
 have c7b1 : ((rd za 1) != 3) = false := bne_eq_false_iff_eq.mpr c7
 clear c7
 by_cases c8 : zf = 0
 rotate_left
 ·rw [if_neg c8] at H
  have c8b0 : (zf == 0) = false := beq_eq_false_iff_ne.mpr c8
  have c8b1 : (zf != 0) = true := bne_iff_ne.mpr c8
  exact absurd H (by simp)
 rw [if_pos c8] at H
 have c8b0 : (zf == 0) = true := beq_iff_eq.mpr c8
 have c8b1 : (zf != 0) = false := bne_eq_false_iff_eq.mpr c8
 clear c8
 have hv_ := aM (Option.some.inj H)
 clear H
 go_enter Try.func23, Try.ntmps23
 go_wp2_with (first | ((with_reducible refine gate_dst (N := 7) rfl ?_); refine Kd.R_lit (Kd.int .i64) _ 3 ?hg (N := 7) ?hd (xs := ([2, 1] : List Int)) (inner := [.int .i64 2, .int .i64 1]) (ok := fun _ => True) (okp := fun _ => True) ?hr ?hp (fun _ hk => hk) trivial (Below.refl _ _) (Nat.le_refl _) (by simp) ?_; (case hd => rfl); (case hg => rfl); (case hr => first | (go_simp; done) | (go_simp; rfl)); (case hp => exact (Reps.one (show Kd.M (Kd.int .i64) _ _ _ 2 [.int .i64 2] from rfl) (Reps.one (show Kd.M (Kd.int .i64) _ _ _ 1 [.int .i64 1] from rfl) (Reps.none _ _)))); intro v1006 w9 ho10 hb hg_ hnew_; clear hg_ hnew_; (first | rw [← zo.out] at ho10 | (simp only [Int.reduceToNat] at ho10; rw [← zo.out] at ho10)); have zd := aM (Kd.R_lower ho10 (below_size (qB HB))); replace HB := bS (qB HB) hb; clear hb ho10) | ((with_reducible refine gate_dst (N := 8) rfl ?_); refine Kd.R_lit (Kd.int .i64) _ 3 ?hg (N := 8) ?hd (xs := ([3] : List Int)) (inner := [.int .i64 3]) (ok := fun _ => True) (okp := fun _ => True) ?hr ?hp (fun _ hk => hk) trivial (Below.refl _ _) (Nat.le_refl _) (by simp) ?_; (case hd => rfl); (case hg => rfl); (case hr => first | (go_simp; done) | (go_simp; rfl)); (case hp => exact (Reps.one (show Kd.M (Kd.int .i64) _ _ _ 3 [.int .i64 3] from rfl) (Reps.none _ _))); intro v1009 w11 ho12 hb hg_ hnew_; clear hg_ hnew_; (first | rw [← zp.out] at ho12 | (simp only [Int.reduceToNat] at ho12; rw [← zp.out] at ho12)); have zj := aM (Kd.R_lower (Kd.R_new' ho12 (Kd.R_lt (pR zd.out))) (below_size (qB HB))); replace zd := eR zd ho12 hb; replace HB := bS (qB HB) hb; clear hb ho12; obtain ⟨zw, zx, eo13⟩ := Kd.R_slice zd.out; subst eo13; obtain ⟨zy, zz, eo14⟩ := Kd.R_slice zj.out; subst eo14) | ((with_reducible refine gate_dst (N := 9) rfl ?_); refine Kd.N_lit (Kd.slice 3 (Kd.int .i64)) _ 22 ?hg (N' := 9) ?hd (xs := ([ze, zh] : List (List Int))) (inner := [.slice zw ze.length zx, .slice zy zh.length zz]) (ok := (fun _ => True)) (okp := (fun _ => True)) ?hr ?hp (fun _ hk => hk) ((show ∀ k_, w11.heap.size ≤ k_ → (fun _ => True) k_ from fun k_ hk => trivial) _ (Nat.le_refl _)) (Below.refl _ _) (Nat.le_refl _) (by simp) ?_; (case hd => rfl); (case hg => rfl); (case hr => first | (go_simp; done) | (go_simp; rfl)); (case hp => exact (Reps.one (show Kd.FK (Kd.slice 3 (Kd.int .i64)) _ _ ze [.slice zw ze.length zx] from (Kd.FK_slice_mk (Kd.R_reads' (Kd.R_mono (ok' := (fun _ => True)) (zd.out) (fun k_ hk => trivial))).2.1 (Kd.R_F (Kd.R_mono (ok' := (fun _ => True)) (zd.out) (fun k_ hk => trivial))))) (Reps.one (show Kd.FK (Kd.slice 3 (Kd.int .i64)) _ _ zh [.slice zy zh.length zz] from (Kd.FK_slice_mk (Kd.R_reads' (Kd.R_mono (ok' := (fun _ => True)) (zj.out) (fun k_ hk => trivial))).2.1 (Kd.R_F (Kd.R_mono (ok' := (fun _ => True)) (zj.out) (fun k_ hk => trivial))))) (Reps.none _ _)))); intro v1012 w15 ho16 hb hg_ hnew_; clear hg_ hnew_; (first | rw [← zq.out] at ho16 | (simp only [Int.reduceToNat] at ho16; rw [← zq.out] at ho16)); have zb := aM (Kd.N_lower ho16 (below_size (qB HB))); replace HB := bS (qB HB) hb; clear zd zj; clear hb ho16; obtain ⟨zu, zv, eo17⟩ := Kd.N_slice zb.out; subst eo17) | ((with_reducible refine gate_callee (f := 24) rfl ?_); refine goesL_ (some 10) rfl rfl Try.func24 (by kernel_rfl) rfl #[.int .i64 17, .agg #[.int .i64 0, .int .i64 0, .int .i64 0, .int .i64 0, .int .i64 0, .int .i64 0, .int .i64 0, .int .i64 0, .bool false, .slice none 0 0], .slice zu zi.length zv] rfl pA ?_; (refine (infer_Dims.calls k 17 0 0 0 0 0 0 0 0 false _ _ ([] : List Int) _ _ zi za zf _ ?s1 ?s2 ?s3 ?s4 A1.out).mono ?_); (case s1 => exact Kd.C_nil _ _); (case s2 => exact Nat.le_refl _); (case s3 => exact pC (Kd.N_reads' zb.out).2.2); (case s4 => exact (Kd.N_reads' zb.out).2.1); rintro e w18 ⟨zt, rfl, ho0, hb⟩; refine ⟨_, rfl, ?_⟩; replace zb := aM (Kd.N_elder' (by (with_reducible repeat (first | apply Kd.N_alloc | apply Kd.N_drewN | apply Kd.N_drew)); exact zb.out) (Kd.R_base ho0) hb); have zc := aM (Kd.R_lower ho0 (below_size (qB HB))); replace HB := bS (qB HB) hb; (try clear hb); (try clear hk); (try clear hi); (try clear ho0)) | ((with_reducible refine gate_dst (N := 15) rfl ?_); refine Kd.N_lit (Kd.slice 3 (Kd.int .i64)) _ 22 ?hg (N' := 15) ?hd (xs := ([[]] : List (List Int))) (inner := [.slice none 0 0]) (ok := (fun k_ => some k_ ≠ (.slice zu zi.length zv : Value).ownBlock ∧ some k_ ≠ (zt : Value).ownBlock)) (okp := (fun k_ => some k_ ≠ (.slice zu zi.length zv : Value).ownBlock ∧ some k_ ≠ (zt : Value).ownBlock)) ?hr ?hp (fun _ hk => hk) ((show ∀ k_, w18.heap.size ≤ k_ → (fun k_ => some k_ ≠ (.slice zu zi.length zv : Value).ownBlock ∧ some k_ ≠ (zt : Value).ownBlock) k_ from fun k_ hk => ⟨Kd.fresh' (Kd.N_lt (by (with_reducible repeat (first | apply Kd.N_alloc | apply Kd.N_drewN | apply Kd.N_drew)); exact zb.out)) k_ hk, Kd.fresh' (Kd.R_lt (pR zc.out)) k_ hk⟩) _ (Nat.le_refl _)) (Below.refl _ _) (Nat.le_refl _) (by simp) ?_; (case hd => rfl); (case hg => rfl); (case hr => first | (go_simp; done) | (go_simp; rfl)); (case hp => exact (Reps.one (show Kd.FK (Kd.slice 3 (Kd.int .i64)) _ _ [] [.slice none 0 0] from (Kd.FK_slice_mk (Nat.le_refl _) (Kd.F_nil _ _ _))) (Reps.none _ _))); intro v1019 w19 ho20 hb hg_ hnew_; clear hg_ hnew_; (first | rw [← zs.out] at ho20 | (simp only [Int.reduceToNat] at ho20; rw [← zs.out] at ho20)); replace zb := aM (Kd.N_elder' (by (with_reducible repeat (first | apply Kd.N_alloc | apply Kd.N_drewN | apply Kd.N_drew)); exact zb.out) (Kd.N_base ho20) hb); replace zc := bR zc hb; have zg := aM (Kd.N_lower ho20 (below_size (qB HB))); replace HB := bS (qB HB) hb; clear hb ho20; obtain ⟨Ao21, co21, eo21⟩ := Kd.N_slice zg.out; subst eo21) | ((with_reducible refine gate_callee (f := 24) rfl ?_); refine goesL_ (some 16) rfl rfl Try.func24 (by kernel_rfl) rfl #[.int .i64 15, .agg #[.int .i64 0, .int .i64 0, .int .i64 0, .int .i64 0, .int .i64 1, .int .i64 1, .int .i64 1, .int .i64 2, .bool false, .slice none 0 0], .slice Ao21 zr.length co21] rfl pA ?_; (refine (infer_Dims.calls k 15 0 0 0 0 1 1 1 2 false _ _ ([] : List Int) _ _ zr t1021 t1024 _ ?s1 ?s2 ?s3 ?s4 A2.out).mono ?_); (case s1 => exact Kd.C_nil _ _); (case s2 => exact Nat.le_refl _); (case s3 => exact pC (Kd.N_reads' zg.out).2.2); (case s4 => exact (Kd.N_reads' zg.out).2.1); rintro e w22 ⟨v1022, rfl, ho0, hb⟩; refine ⟨_, rfl, ?_⟩; replace zb := aM (Kd.N_elder' (by (with_reducible repeat (first | apply Kd.N_alloc | apply Kd.N_drewN | apply Kd.N_drew)); exact zb.out) (Kd.R_base ho0) hb); replace zg := aM (Kd.N_elder' (by (with_reducible repeat (first | apply Kd.N_alloc | apply Kd.N_drewN | apply Kd.N_drew)); exact zg.out) (Kd.R_base ho0) hb); have HO1023 := aM (Kd.R_lower (Kd.R_new' ho0 (Kd.R_lt (pR zc.out))) (below_size (qB HB))); replace zc := eR zc ho0 hb; replace HB := bS (qB HB) hb; (try clear hb); (try clear hk); (try clear hi); (try clear ho0); obtain ⟨Ao23, co23, eo23⟩ := Kd.R_slice zc.out; subst eo23; have p1025 : 0 ≤ (0 : Int) := (by omega); have q1025 : 0 < (za.length : Int) := of_decide_eq_true pD; obtain ⟨ad1025, e1025, hx1025_0⟩ := Kd.at_int (Kd.R_reads' zc.out).2.2 0 p1025 q1025; cases e1025; have qi1025 : (0 < za.length) = True := eq_true (by omega); (try rw [show ((0 : Int)).toNat = 0 from rfl] at hx1025_0); (try rw [Addr.add_zero'] at hx1025_0); replace p1025 := eq_true p1025; replace q1025 := eq_true q1025; have p1026 : 0 ≤ (1 : Int) := (by omega); have q1026 : 1 < (za.length : Int) := of_decide_eq_true pD; obtain ⟨ad1026, e1026, hx1026_0⟩ := Kd.at_int (Kd.R_reads' zc.out).2.2 1 p1026 q1026; obtain rfl : ad1025 = ad1026 := (by injection e1026); (try simp only [show (1 : Int).toNat = 1 from rfl, Nat.reduceMul, Nat.reduceEqDiff, Go.Addr.add, ↓reduceIte] at hx1026_0); have qi1026 : (1 < za.length) = True := eq_true (by omega); (try rw [show ((1 : Int)).toNat = 1 from rfl] at hx1026_0); replace p1026 := eq_true p1026; replace q1026 := eq_true q1026))
 go_ret
 replace hv_ := hv_.out
 exact ⟨pE, qB HB⟩
end Go.Proofs.Ytcdiobcldhiemaa.Q
namespace Go.Proofs.Ytcdiobcldhiemaa.Pure
open Go.RowKit Go.Proofs.Ytcdiobcldhiemaa.Q Go.Proofs.YtcdiobcldhiemaaW.PrintWords Go.Proofs.YtcdiobcldhiemaaW.PrintLast
theorem Same31 : ∃ k, gradinelaw31_same0.f k = some true := ⟨30, by decide +kernel⟩
end Go.Proofs.Ytcdiobcldhiemaa.Pure
namespace Go.Proofs.Ytcdiobcldhiemaa.Q
open Go.RowKit Go.Proofs.YtcdiobcldhiemaaW.PrintWords Go.Proofs.YtcdiobcldhiemaaW.PrintLast Go.Proofs.YtcdiobcldhiemaaW.PrintMore
attribute [local go_sem] max2_int min2_int max_two min_two max_three min_three max_four min_four   -- for this text's walks alone
set_option linter.unusedVariables false
set_option linter.unusedSimpArgs false
def gradinelaw31_same.f : Option Bool := some true
theorem gradinelaw31_same.calls (r : Bool) (w : World) (h : gradinelaw31_same.f = some r) : Calls Try.prog 23 #[] w fun e w' => e = .returned (.bool r) ∧ Below w.heap.size w w' := by
 obtain rfl := Option.some.inj h
 obtain ⟨k, hk⟩ := Pure.Same31
 exact gradinelaw31_same0.calls k w hk
end Go.Proofs.Ytcdiobcldhiemaa.Q
