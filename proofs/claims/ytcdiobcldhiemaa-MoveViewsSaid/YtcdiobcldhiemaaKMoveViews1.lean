/- Texts of the proof of MoveViews, part 1: what functions of the program compute, and that they compute it. -/
import Derived.Test.YtcdiobcldhiemaaWordsMore
import Derived.Test.YtcdiobcldhiemaaKMoveViews0
namespace Go.Proofs.Ytcdiobcldhiemaa.Q
open Go.RowKit Go.Proofs.YtcdiobcldhiemaaW.PrintWords Go.Proofs.YtcdiobcldhiemaaW.PrintLast Go.Proofs.YtcdiobcldhiemaaW.PrintMore
attribute [local go_sem] max2_int min2_int max_two min_two max_three min_three max_four min_four   -- for this text's walks alone
set_option linter.unusedVariables false
set_option linter.unusedSimpArgs false
def view_Flip.j0 : Nat → Int → Bool → Int → List Int → List Int → Option (Int × List Int × List Int × Int)
 | 0, _, _, _, _, _ => none
 | k + 1, x1, x20, x233000, zy, zz => if x20 = true then (some (0, ([] : List Int), ([] : List Int), 10)) else ((view_copied.f x233000 zy zz).bind fun bt235 => (if 0 ≤ x1 then (if x1 < (zy.length : Int) then (if (rd zy x1) > 1 then (if x1 < (zz.length : Int) then (if x1 < (bt235.2.2.length : Int) then (some (wrap64 (bt235.1 + (wrap64 ((wrap64 ((rd zy x1) - 1)) * (rd zz x1)))), bt235.2.1, (bt235.2.2.set (x1 : Int).toNat (wrap64 (-(rd zz x1)))), 0)) else (none)) else (none)) else (some (bt235.1, bt235.2.1, bt235.2.2, 0))) else (none)) else (none)))
def view_Flip.f (k : Nat) (a0_0 : Int) (l0_1 : List Int) (l0_2 : List Int) (a1 : Int) : Option (Int × List Int × List Int × Int) := (view_right.f k a0_0 l0_1 l0_2).bind fun zaa => (if zaa = true then (if a1 < 0 then (view_Flip.j0 k a1 true a0_0 l0_1 l0_2) else (view_Flip.j0 k a1 (decide (a1 ≥ (l0_1.length : Int))) a0_0 l0_1 l0_2)) else (some (0, ([] : List Int), ([] : List Int), 1)))
def view_Flip.T8 : Bool × List (List Nat × List Nat) := (true, [([], []), ([0], [0]), ([], []), ([2], [2]), ([], []), ([4], [4]), ([], []), ([5, 6], [5, 6]), ([7], [7]), ([3, 8], [3, 8]), ([1, 9], [1, 9]), ([0, 1, 2, 3, 4, 5, 6, 7, 8, 9, 10], []), ([11, 10, 0, 1, 2, 3, 4, 5, 6, 7, 8, 9, 10], [10, 11])])
def view_Flip.B8 : List Nat := [0, 1, 0, 4, 0, 16, 0, 112, 240, 508, 1023, 2047, 4095]
theorem view_Flip.tab8 : rtab .any (opsOf Try.f47 8) = view_Flip.T8 := by kernel_rfl
theorem view_Flip.bits8 : waitsOk view_Flip.T8.2 view_Flip.B8 = true := by kernel_rfl
def view_Flip.T9 : Bool × List (List Nat × List Nat) := (true, [([], []), ([0], [0]), ([], []), ([], []), ([3], [3]), ([], []), ([4, 5], [4, 5]), ([6], [6]), ([7], [7]), ([1, 2, 0, 1, 2, 3, 4, 5, 6, 7, 8], [1, 2]), ([9, 8, 0, 1, 2, 3, 4, 5, 6, 7, 8], [8, 9])])
def view_Flip.B9 : List Nat := [0, 1, 0, 0, 8, 0, 56, 120, 248, 511, 1023]
theorem view_Flip.tab9 : rtab .any (opsOf Try.f47 9) = view_Flip.T9 := by kernel_rfl
theorem view_Flip.bits9 : waitsOk view_Flip.T9.2 view_Flip.B9 = true := by kernel_rfl
set_option maxHeartbeats 8000000 in
set_option maxRecDepth 100000 in
theorem view_Flip.calls (k : Nat) (a0_0 : Int) (A0_1 : Option Addr) (c0_1 : Nat) (l0_1 : List Int) (A0_2 : Option Addr) (c0_2 : Nat) (l0_2 : List Int) (a1 : Int) (r1 : Int) (r2 : List Int) (r3 : List Int) (r4 : Int) (w : World) (hr0_1 : Kd.C (Kd.int .i64) w A0_1 l0_1.length l0_1) (hc0_1 : l0_1.length ≤ c0_1) (hr0_2 : Kd.C (Kd.int .i64) w A0_2 l0_2.length l0_2) (hc0_2 : l0_2.length ≤ c0_2) (h : view_Flip.f k a0_0 l0_1 l0_2 a1 = some (r1, r2, r3, r4)) :
  Calls Try.prog 47 #[.agg #[.int .i64 a0_0, .slice A0_1 l0_1.length c0_1, .slice A0_2 l0_2.length c0_2], .int .i64 a1] w fun e w' => ∃ v1_ v2_ : Value, e = .returned (.tuple #[.agg #[.int .i64 r1, v1_, v2_], .int .i64 r4]) ∧ Kd.R (Kd.int .i64) 3 w' w.heap.size (fun k_ => some k_ ≠ (v2_ : Value).ownBlock) v1_ r2 ∧ Kd.R (Kd.int .i64) 3 w' w.heap.size (fun k_ => some k_ ≠ (v1_ : Value).ownBlock) v2_ r3 ∧ Below w.heap.size w w' := by
 have hu44 := Try.underlying44
 have z0 := aM hr0_1
 have z6 := aM hc0_1
 clear hr0_1 hc0_1
 have z1 := aM hr0_2
 have z7 := aM hc0_2
 clear hr0_2 hc0_2
 have HB := aM (Below.refl w.heap.size w)
 have H : ((view_right.f k a0_0 l0_1 l0_2).bind fun zaa => (if zaa = true then (if a1 < 0 then (view_Flip.j0 k a1 true a0_0 l0_1 l0_2) else (view_Flip.j0 k a1 (decide (a1 ≥ (l0_1.length : Int))) a0_0 l0_1 l0_2)) else (some (0, ([] : List Int), ([] : List Int), 1)))) = some (r1, r2, r3, r4) := h
 clear h
 replace H := Option.bind_eq_some_iff.mp H
 obtain ⟨zaa, A30, H⟩ := H
 try dsimp only at H
 have A3 := aM A30
 clear A30
 by_cases c4 : zaa = true
 rotate_left
 ·replace c4 := Bool.eq_false_iff.mpr c4
  subst c4
  rw [if_neg (show ¬ (false = true) by decide)] at H
  simp only [Option.some.injEq, Prod.mk.injEq] at H
  obtain ⟨rfl, rfl, rfl, rfl⟩ := H
  go_enter Try.func47, Try.ntmps47
  go_wp2_with (first | ((with_reducible refine gate_dst (N := 2) rfl ?_); (try (refine gate_guard (by rfl) ?_; dsimp only)); refine box_event ?hg (N := 2) ?hd (cs := #[.int .i64 a0_0, .slice A0_1 l0_1.length c0_1, .slice A0_2 l0_2.length c0_2]) (t := 44) ?hr ?_; (case hd => rfl); (case hg => rfl); (case hr => first | (go_simp; done) | (go_simp; rfl)); intro zt hg w54 hbox hb; have zb := aM (hbox); have zab := gE (w := w) hg (qB HB); have zf := zab; replace HB := bS (qB HB) hb; clear hb hbox hg) | ((with_reducible refine gate_dst (N := 4) rfl ?_); (try (refine gate_guard (by rfl) ?_; dsimp only)); refine box_event ?hg (N := 4) ?hd (cs := #[.int .i64 0, .slice none 0 0, .slice none 0 0]) (t := 44) ?hr ?_; (case hd => rfl); (case hg => rfl); (case hr => first | (go_simp; done) | (go_simp; rfl)); intro zl hg w55 hbox hb; have zc := aM (hbox); have zac := gE (w := w) hg (qB1 HB zf); have zk := zac; replace HB := bS (qB1 HB zf) hb; have zm := nL hg zb; have zn := nG hg zb; replace zb := bK zb hb; clear hb hbox hg; have hnb56 := zm.out; have hnc56 := zn.out; obtain ⟨hcz57_0, hcz57_1, hcz57_2, hfz57_0, hfz57_1, hfz57_2⟩ := blk3 zb.out) | ((with_reducible refine gate_callee (f := 49) rfl ?_); refine goesL_ (some 9) rfl rfl Try.func49 (by kernel_rfl) rfl #[.agg #[.int .i64 a0_0, .slice A0_1 l0_1.length c0_1, .slice A0_2 l0_2.length c0_2]] rfl pA ?_; (with_reducible refine (view_right.calls k a0_0 _ _ l0_1 _ _ l0_2 false _ ?s1 ?s2 ?s3 ?s4 A3.out).mono ?_); (case s1 => exact sC z0 HB); (case s2 => exact z6.out); (case s3 => exact sC z1 HB); (case s4 => exact z7.out); rintro e w58 ⟨rfl, hb⟩; refine ⟨_, rfl, ?_⟩; replace zb := bK zb hb; replace zc := bK zc hb; replace HB := bS (qB2 HB zf zk) hb; (try clear hb); (try clear hk); (try clear hi); obtain ⟨hcz59_0, hcz59_1, hcz59_2, hfz59_0, hfz59_1, hfz59_2⟩ := blk3 zc.out))
  refine bodyPost_ret (results_ct rfl _ _ zl 44 #[.int .i64 0, .slice none 0 0, .slice none 0 0] (0, 0) _ rfl (by exact P3 zc) Try.underlying44 rfl (by kernel_rfl)) rfl ?_
  exact ⟨_, _, pE, pN, pN, qB2 HB zf zk⟩
 subst c4
 rw [if_pos rfl] at H
 have HC5 := aM H
 clear H
 go_enter Try.func47, Try.ntmps47
 go_upto_region 3 with (first | ((with_reducible refine gate_dst (N := 2) rfl ?_); (try (refine gate_guard (by rfl) ?_; dsimp only)); refine box_event ?hg (N := 2) ?hd (cs := #[.int .i64 a0_0, .slice A0_1 l0_1.length c0_1, .slice A0_2 l0_2.length c0_2]) (t := 44) ?hr ?_; (case hd => rfl); (case hg => rfl); (case hr => first | (go_simp; done) | (go_simp; rfl)); intro zt hg w6 hbox hb; have zb := aM (hbox); have zab := gE (w := w) hg (qB HB); have zf := zab; replace HB := bS (qB HB) hb; clear hb hbox hg) | ((with_reducible refine gate_dst (N := 4) rfl ?_); (try (refine gate_guard (by rfl) ?_; dsimp only)); refine box_event ?hg (N := 4) ?hd (cs := #[.int .i64 0, .slice none 0 0, .slice none 0 0]) (t := 44) ?hr ?_; (case hd => rfl); (case hg => rfl); (case hr => first | (go_simp; done) | (go_simp; rfl)); intro zl hg w7 hbox hb; have zc := aM (hbox); have zac := gE (w := w) hg (qB1 HB zf); have zk := zac; replace HB := bS (qB1 HB zf) hb; have zm := nL hg zb; have zn := nG hg zb; replace zb := bK zb hb; clear hb hbox hg; have hnb8 := zm.out; have hnc8 := zn.out; obtain ⟨hcz9_0, hcz9_1, hcz9_2, hfz9_0, hfz9_1, hfz9_2⟩ := blk3 zb.out) | ((with_reducible refine gate_callee (f := 49) rfl ?_); refine goesL_ (some 9) rfl rfl Try.func49 (by kernel_rfl) rfl #[.agg #[.int .i64 a0_0, .slice A0_1 l0_1.length c0_1, .slice A0_2 l0_2.length c0_2]] rfl pA ?_; (with_reducible refine (view_right.calls k a0_0 _ _ l0_1 _ _ l0_2 true _ ?s1 ?s2 ?s3 ?s4 A3.out).mono ?_); (case s1 => exact sC z0 HB); (case s2 => exact z6.out); (case s3 => exact sC z1 HB); (case s4 => exact z7.out); rintro e w10 ⟨rfl, hb⟩; refine ⟨_, rfl, ?_⟩; replace zb := bK zb hb; replace zc := bK zc hb; replace HB := bS (qB2 HB zf zk) hb; (try clear hb); (try clear hk); (try clear hi)))
 (try simp only [Act.put, sP])
 go_cut [20] (fun v20 wc => ∃ (kq : Nat) (x20_4 : Bool), v20 = .bool x20_4 ∧ Aside0 (view_Flip.j0 kq a1 x20_4 a0_0 l0_1 l0_2 = some (r1, r2, r3, r4)) ∧ Aside0 (kq ≤ k) ∧ Aside0 (wc.heap[zt]? = some (.cells #[.int .i64 a0_0, (.slice A0_1 l0_1.length c0_1), (.slice A0_2 l0_2.length c0_2)] 44 (0, 0))) ∧ Aside0 (wc.heap[zl]? = some (.cells #[.int .i64 0, (.slice none 0 0), (.slice none 0 0)] 44 (0, 0))) ∧ Aside0 (Below w.heap.size w wc))
 case first =>
  have H := HC5.out
  clear HC5
  by_cases c11 : a1 < 0
  ·rw [if_pos c11] at H
   have z3 : decide (a1 < 0) = true := decide_eq_true c11
   clear c11
   (first | rw [z3] | (simp only [i64_w, i32_w]; rw [z3]) | skip)
   have H' := aM H
   clear H
   go_wp2
   go_meet
   case rel => exact ⟨_, (true), (pF), H', ⟨by first | omega | exact Nat.le_refl _⟩, ⟨pK zb.out⟩, ⟨pK zc.out⟩, ⟨qB2 HB zf zk⟩⟩
  rw [if_neg c11] at H
  have z3 : decide (a1 < 0) = false := decide_eq_false c11
  clear c11
  (first | rw [z3] | (simp only [i64_w, i32_w]; rw [z3]) | skip)
  have H' := aM H
  clear H
  have hnb12 := zm.out
  have hnc12 := zn.out
  obtain ⟨hcz13_0, hcz13_1, hcz13_2, hfz13_0, hfz13_1, hfz13_2⟩ := blk3 zb.out
  go_wp2
  go_meet
  case rel => exact ⟨_, (decide (a1 ≥ (l0_1.length : Int))), (pF), H', ⟨by first | omega | exact Nat.le_refl _⟩, ⟨pK zb.out⟩, ⟨pK zc.out⟩, ⟨qB2 HB zf zk⟩⟩
 case rest =>
  clear HC5
  try clear c4
  try clear hcz9_0 hcz9_1 hcz9_2 hfz9_0 hfz9_1 hfz9_2
  obtain ⟨kq, x20_4, rfl, HA, HJ4, zb, zc, HB⟩ := hcut
  cases kq with
  | zero => exact absurd HA.out (by simp [view_Flip.j0])
  | succ kj4 =>
   have H := HA.out
   clear HA
   simp only [view_Flip.j0] at H
   by_cases c14 : x20_4 = true
   ·subst c14
    rw [if_pos rfl] at H
    simp only [Option.some.injEq, Prod.mk.injEq] at H
    obtain ⟨rfl, rfl, rfl, rfl⟩ := H
    have hnb15 := zn.out
    have hnc15 := zm.out
    obtain ⟨hcz16_0, hcz16_1, hcz16_2, hfz16_0, hfz16_1, hfz16_2⟩ := blk3 zc.out
    go_wp2
    refine bodyPost_ret (results_ct rfl _ _ zl 44 #[.int .i64 0, .slice none 0 0, .slice none 0 0] (0, 0) _ rfl (by exact P3 zc) Try.underlying44 rfl (by kernel_rfl)) rfl ?_
    exact ⟨_, _, pE, pN, pN, qB2 HB zf zk⟩
   replace c14 := Bool.eq_false_iff.mpr c14
   subst c14
   rw [if_neg (show ¬ (false = true) by decide)] at H
   replace H := Option.bind_eq_some_iff.mp H
   obtain ⟨⟨zg, zj, zh⟩, zae, H⟩ := H
   try dsimp only at H
   have A17 := aM zae
   clear zae
   by_cases c18 : 0 ≤ a1
   rotate_left
   ·rw [if_neg c18] at H
    exact absurd H (by simp)
   rw [if_pos c18] at H
   have c18b0 : decide (0 ≤ a1) = true := decide_eq_true c18
   clear c18
   by_cases c19 : a1 < (l0_1.length : Int)
   rotate_left
   ·rw [if_neg c19] at H
    exact absurd H (by simp)
   rw [if_pos c19] at H
   have c19b0 : decide (a1 < (l0_1.length : Int)) = true := decide_eq_true c19
   clear c19
   by_cases c20 : (rd l0_1 a1) > 1
   rotate_left
   ·rw [if_neg c20] at H
    have c20b0 : decide (1 < (rd l0_1 a1)) = false := decide_eq_false c20
    clear c20
    simp only [Option.some.injEq, Prod.mk.injEq] at H
    obtain ⟨rfl, rfl, rfl, rfl⟩ := H
    have hnb43 := zm.out
    have hnc43 := zn.out
    obtain ⟨hcz44_0, hcz44_1, hcz44_2, hfz44_0, hfz44_1, hfz44_2⟩ := blk3 zb.out
    go_wp2_with (first | ((with_reducible refine gate_callee (f := 72) rfl ?_); refine goesL_ (some 23) rfl rfl Try.func72 (by kernel_rfl) rfl #[.agg #[.int .i64 a0_0, .slice A0_1 l0_1.length c0_1, .slice A0_2 l0_2.length c0_2]] rfl pA ?_; (with_reducible refine (view_copied.calls a0_0 _ _ l0_1 _ _ l0_2 zg zj zh _ ?s1 ?s2 ?s3 ?s4 A17.out).mono ?_); (case s1 => exact sC z0 HB); (case s2 => exact z6.out); (case s3 => exact sC z1 HB); (case s4 => exact z7.out); rintro e w45 ⟨v237, v240, rfl, ho0, ho1, hb⟩; refine ⟨_, rfl, ?_⟩; have zi := aM (Kd.R_lower ho0 (below_size (qB2 HB zf zk))); have ze := aM (Kd.R_lower ho1 (below_size (qB2 HB zf zk))); replace zb := bK zb hb; replace zc := bK zc hb; replace HB := bS (qB2 HB zf zk) hb; (try clear hb); (try clear hk); (try clear hi); (try clear ho0); (try clear ho1)) | ((with_reducible refine gate_dst (N := 6) rfl ?_); (try (refine gate_guard (by rfl) ?_; dsimp only)); refine box_event ?hg (N := 6) ?hd (cs := #[.int .i64 0, .slice none 0 0, .slice none 0 0]) (t := 44) ?hr ?_; (case hd => rfl); (case hg => rfl); (case hr => first | (go_simp; done) | (go_simp; rfl)); intro za hg w46 hbox hb; replace zi := bR zi hb; replace ze := bR ze hb; have zd := aM (hbox); have zx := gE (w := w) hg (qB2 HB zf zk); have z2 := zx; replace HB := bS (qB2 HB zf zk) hb; have zp := nL hg zb; have zu := nG hg zb; replace zb := bK zb hb; have zo := nL hg zc; have zv := nG hg zc; replace zc := bK zc hb; clear hb hbox hg; have hnb47 := zu.out; have hnc47 := zp.out; have hnb48 := zv.out; have hnc48 := zo.out; obtain ⟨hcz49_0, hcz49_1, hcz49_2, hfz49_0, hfz49_1, hfz49_2⟩ := blk3 zd.out; obtain ⟨z4, z5, eo50⟩ := Kd.R_slice zi.out; subst eo50; obtain ⟨z8, z9, eo51⟩ := Kd.R_slice ze.out; subst eo51; obtain ⟨hcz52_0, hcz52_1, hcz52_2, hfz52_0, hfz52_1, hfz52_2⟩ := blk3 zb.out; have p243 : 0 ≤ (a1 : Int) := of_decide_eq_true pD; have q243 : a1 < (l0_1.length : Int) := of_decide_eq_true pD; obtain ⟨ad243, e243, hx243_0⟩ := Kd.at_int z0.out a1 p243 q243; cases e243; have hn243_0 : ad243.block ≠ za := Nat.ne_of_lt (Nat.lt_of_lt_of_le (by have := World.block_lt_of_cell? _ _ hx243_0; first | rwa [add_block] at this | exact this) zx.out); have hn243_1 : ad243.block ≠ za := Nat.ne_of_lt (Nat.lt_of_lt_of_le (by have := World.block_lt_of_cell? _ _ hx243_0; first | rwa [add_block] at this | exact this) zx.out); have hn243_2 : ad243.block ≠ za := Nat.ne_of_lt (Nat.lt_of_lt_of_le (by have := World.block_lt_of_cell? _ _ hx243_0; first | rwa [add_block] at this | exact this) zx.out); replace hx243_0 := (HB.out.cell (World.block_lt_of_cell? w _ hx243_0)).trans hx243_0; replace hx243_0 := (cell_far (p := ⟨za, 0, none⟩) (by first | (rw [add_block]; exact hn243_0) | (show (Addr.add _ _).block ≠ _; rw [add_block]; exact hn243_0) | exact hn243_0) (.int .i64 zg)).trans hx243_0; replace hx243_0 := (cell_far (p := ⟨za, 1, none⟩) (by first | (rw [add_block]; exact hn243_1) | (show (Addr.add _ _).block ≠ _; rw [add_block]; exact hn243_1) | exact hn243_1) (.slice z4 zj.length z5)).trans hx243_0; replace hx243_0 := (cell_far (p := ⟨za, 2, none⟩) (by first | (rw [add_block]; exact hn243_2) | (show (Addr.add _ _).block ≠ _; rw [add_block]; exact hn243_2) | exact hn243_2) (.slice z8 zh.length z9)).trans hx243_0; clear hn243_0; clear hn243_1; clear hn243_2; replace p243 := eq_true p243; replace q243 := eq_true q243; obtain ⟨hcz53_0, hcz53_1, hcz53_2, hfz53_0, hfz53_1, hfz53_2⟩ := blk3 zc.out))
    refine bodyPost_ret (results_ct rfl _ _ zl 44 #[.int .i64 zg, .slice z4 zj.length z5, .slice z8 zh.length z9] (0, 0) _ rfl (by (with_reducible repeat (first | apply bN | apply bD | apply bA)); refine blk_put (cs := #[.int .i64 zg, .slice z4 zj.length z5, .slice none 0 0]) ?_ 2 _ rfl; (with_reducible repeat (first | apply bN | apply bD | apply bA)); refine blk_put (cs := #[.int .i64 zg, .slice none 0 0, .slice none 0 0]) ?_ 1 _ rfl; (with_reducible repeat (first | apply bN | apply bD | apply bA)); refine blk_put (cs := #[.int .i64 0, .slice none 0 0, .slice none 0 0]) ?_ 0 _ rfl; refine B3 zo ?_; exact zc.out) Try.underlying44 rfl (by kernel_rfl)) rfl ?_
    exact ⟨_, _, pE, by (with_reducible repeat (first | apply rA | apply rN | apply rD)); exact Kd.R_mono (Kd.R_far (p := ⟨zl, 2, none⟩) (Kd.R_far (p := ⟨zl, 1, none⟩) (Kd.R_far (p := ⟨zl, 0, none⟩) (Kd.R_far (p := ⟨za, 2, none⟩) (Kd.R_far (p := ⟨za, 1, none⟩) (Kd.R_far (p := ⟨za, 0, none⟩) (Kd.R_types (Kd.R_types zi.out zd.out (by decide)) zc.out (by decide)) (fun _ hk => hk.1.2) (.int .i64 zg)) (fun _ hk => hk.1.2) (.slice z4 zj.length z5)) (fun _ hk => hk.1.2) (.slice z8 zh.length z9)) (fun _ hk => hk.2) (.int .i64 zg)) (fun _ hk => hk.2) (.slice z4 zj.length z5)) (fun _ hk => hk.2) (.slice z8 zh.length z9)) (fun _ hk => hk.1.1), by (with_reducible repeat (first | apply rA | apply rN | apply rD)); exact Kd.R_mono (Kd.R_far (p := ⟨zl, 2, none⟩) (Kd.R_far (p := ⟨zl, 1, none⟩) (Kd.R_far (p := ⟨zl, 0, none⟩) (Kd.R_far (p := ⟨za, 2, none⟩) (Kd.R_far (p := ⟨za, 1, none⟩) (Kd.R_far (p := ⟨za, 0, none⟩) (Kd.R_types (Kd.R_types ze.out zd.out (by decide)) zc.out (by decide)) (fun _ hk => hk.1.2) (.int .i64 zg)) (fun _ hk => hk.1.2) (.slice z4 zj.length z5)) (fun _ hk => hk.1.2) (.slice z8 zh.length z9)) (fun _ hk => hk.2) (.int .i64 zg)) (fun _ hk => hk.2) (.slice z4 zj.length z5)) (fun _ hk => hk.2) (.slice z8 zh.length z9)) (fun _ hk => hk.1.1), qB3 HB zf zk z2⟩
   rw [if_pos c20] at H
   have c20b0 : decide (1 < (rd l0_1 a1)) = true := decide_eq_true c20
   clear c20
   by_cases c21 : a1 < (l0_2.length : Int)
   rotate_left
   ·rw [if_neg c21] at H
    exact absurd H (by simp)
   rw [if_pos c21] at H
   have c21b0 : decide (a1 < (l0_2.length : Int)) = true := decide_eq_true c21
   clear c21
   by_cases c22 : a1 < (zh.length : Int)
   rotate_left
   ·rw [if_neg c22] at H
    exact absurd H (by simp)
   rw [if_pos c22] at H
   have c22b0 : decide (a1 < (zh.length : Int)) = true := decide_eq_true c22
   clear c22
   obtain ⟨zaf, zad⟩ : ∃ y_ : List Int, y_ = (zh.set (a1 : Int).toNat (wrap64 (-(rd l0_2 a1)))) := ⟨_, rfl⟩
   replace H : (some (wrap64 (zg + (wrap64 ((wrap64 ((rd l0_1 a1) - 1)) * (rd l0_2 a1)))), zj, zaf, 0)) = some (r1, r2, r3, r4) := pH zad H
   have Ny246 := aM zad
   clear zad
   simp only [Option.some.injEq, Prod.mk.injEq] at H
   obtain ⟨rfl, rfl, rfl, rfl⟩ := H
   have hnb24 := zm.out
   have hnc24 := zn.out
   obtain ⟨hcz25_0, hcz25_1, hcz25_2, hfz25_0, hfz25_1, hfz25_2⟩ := blk3 zb.out
   try go_wp2_with (first | ((with_reducible refine gate_callee (f := 72) rfl ?_); refine goesL_ (some 23) rfl rfl Try.func72 (by kernel_rfl) rfl #[.agg #[.int .i64 a0_0, .slice A0_1 l0_1.length c0_1, .slice A0_2 l0_2.length c0_2]] rfl pA ?_; (with_reducible refine (view_copied.calls a0_0 _ _ l0_1 _ _ l0_2 zg zj zh _ ?s1 ?s2 ?s3 ?s4 A17.out).mono ?_); (case s1 => exact sC z0 HB); (case s2 => exact z6.out); (case s3 => exact sC z1 HB); (case s4 => exact z7.out); rintro e w26 ⟨v237, v240, rfl, ho0, ho1, hb⟩; refine ⟨_, rfl, ?_⟩; have zi := aM (Kd.R_lower ho0 (below_size (qB2 HB zf zk))); have ze := aM (Kd.R_lower ho1 (below_size (qB2 HB zf zk))); replace zb := bK zb hb; replace zc := bK zc hb; replace HB := bS (qB2 HB zf zk) hb; (try clear hb); (try clear hk); (try clear hi); (try clear ho0); (try clear ho1)) | ((with_reducible refine gate_dst (N := 6) rfl ?_); (try (refine gate_guard (by rfl) ?_; dsimp only)); refine box_event ?hg (N := 6) ?hd (cs := #[.int .i64 0, .slice none 0 0, .slice none 0 0]) (t := 44) ?hr ?_; (case hd => rfl); (case hg => rfl); (case hr => first | (go_simp; done) | (go_simp; rfl)); intro za hg w27 hbox hb; replace zi := bR zi hb; replace ze := bR ze hb; have zd := aM (hbox); have zx := gE (w := w) hg (qB2 HB zf zk); have z2 := zx; replace HB := bS (qB2 HB zf zk) hb; have zp := nL hg zb; have zu := nG hg zb; replace zb := bK zb hb; have zo := nL hg zc; have zv := nG hg zc; replace zc := bK zc hb; clear hb hbox hg; have hnb28 := zu.out; have hnc28 := zp.out; have hnb29 := zv.out; have hnc29 := zo.out; obtain ⟨hcz30_0, hcz30_1, hcz30_2, hfz30_0, hfz30_1, hfz30_2⟩ := blk3 zd.out; obtain ⟨zq, zr, eo31⟩ := Kd.R_slice zi.out; subst eo31; obtain ⟨zw, zs, eo32⟩ := Kd.R_slice ze.out; subst eo32; obtain ⟨hcz33_0, hcz33_1, hcz33_2, hfz33_0, hfz33_1, hfz33_2⟩ := blk3 zb.out; have p243 : 0 ≤ (a1 : Int) := of_decide_eq_true pD; have q243 : a1 < (l0_1.length : Int) := of_decide_eq_true pD; obtain ⟨ad243, e243, hx243_0⟩ := Kd.at_int z0.out a1 p243 q243; cases e243; have hn243_0 : ad243.block ≠ za := Nat.ne_of_lt (Nat.lt_of_lt_of_le (by have := World.block_lt_of_cell? _ _ hx243_0; first | rwa [add_block] at this | exact this) zx.out); have hn243_1 : ad243.block ≠ za := Nat.ne_of_lt (Nat.lt_of_lt_of_le (by have := World.block_lt_of_cell? _ _ hx243_0; first | rwa [add_block] at this | exact this) zx.out); have hn243_2 : ad243.block ≠ za := Nat.ne_of_lt (Nat.lt_of_lt_of_le (by have := World.block_lt_of_cell? _ _ hx243_0; first | rwa [add_block] at this | exact this) zx.out); replace hx243_0 := (HB.out.cell (World.block_lt_of_cell? w _ hx243_0)).trans hx243_0; replace hx243_0 := (cell_far (p := ⟨za, 0, none⟩) (by first | (rw [add_block]; exact hn243_0) | (show (Addr.add _ _).block ≠ _; rw [add_block]; exact hn243_0) | exact hn243_0) (.int .i64 zg)).trans hx243_0; replace hx243_0 := (cell_far (p := ⟨za, 1, none⟩) (by first | (rw [add_block]; exact hn243_1) | (show (Addr.add _ _).block ≠ _; rw [add_block]; exact hn243_1) | exact hn243_1) (.slice zq zj.length zr)).trans hx243_0; replace hx243_0 := (cell_far (p := ⟨za, 2, none⟩) (by first | (rw [add_block]; exact hn243_2) | (show (Addr.add _ _).block ≠ _; rw [add_block]; exact hn243_2) | exact hn243_2) (.slice zw zh.length zs)).trans hx243_0; clear hn243_0; clear hn243_1; clear hn243_2; replace p243 := eq_true p243; replace q243 := eq_true q243))
   have n0_ : Aside0 (Kd.R (Kd.int .i64) 3 (((w27.setCell ⟨za, 0, none⟩ (.int .i64 zg)).setCell ⟨za, 1, none⟩ (.slice zq zj.length zr)).setCell ⟨za, 2, none⟩ (.slice zw zh.length zs)) w.heap.size (fun k_ => some k_ ≠ (.slice zw zh.length zs : Value).ownBlock) (.slice zq zj.length zr) zj) := ⟨by (with_reducible repeat (first | apply rA | apply rN | apply rD)); exact F3 zi zd (fun _ hk => hk.1)⟩
   have n1_ : Aside0 (Kd.R (Kd.int .i64) 3 (((w27.setCell ⟨za, 0, none⟩ (.int .i64 zg)).setCell ⟨za, 1, none⟩ (.slice zq zj.length zr)).setCell ⟨za, 2, none⟩ (.slice zw zh.length zs)) w.heap.size (fun k_ => some k_ ≠ (.slice zq zj.length zr : Value).ownBlock) (.slice zw zh.length zs) zh) := ⟨by (with_reducible repeat (first | apply rA | apply rN | apply rD)); exact F3 ze zd (fun _ hk => hk.1)⟩
   have n2_ : Aside0 ((((w27.setCell ⟨za, 0, none⟩ (.int .i64 zg)).setCell ⟨za, 1, none⟩ (.slice zq zj.length zr)).setCell ⟨za, 2, none⟩ (.slice zw zh.length zs)).heap[zt]? = some (.cells #[.int .i64 a0_0, .slice (some ad243) l0_1.length c0_1, .slice A0_2 l0_2.length c0_2] 44 (0, 0))) := ⟨by refine B3 zp ?_; exact zb.out⟩
   have n3_ : Aside0 ((((w27.setCell ⟨za, 0, none⟩ (.int .i64 zg)).setCell ⟨za, 1, none⟩ (.slice zq zj.length zr)).setCell ⟨za, 2, none⟩ (.slice zw zh.length zs)).heap[zl]? = some (.cells #[.int .i64 0, .slice none 0 0, .slice none 0 0] 44 (0, 0))) := ⟨by refine B3 zo ?_; exact zc.out⟩
   have n4_ : Aside0 ((((w27.setCell ⟨za, 0, none⟩ (.int .i64 zg)).setCell ⟨za, 1, none⟩ (.slice zq zj.length zr)).setCell ⟨za, 2, none⟩ (.slice zw zh.length zs)).heap[za]? = some (.cells #[.int .i64 zg, .slice zq zj.length zr, .slice zw zh.length zs] 44 (0, 0))) := ⟨by exact P3 zd⟩
   have n5_ : Aside0 (Below w.heap.size w (((w27.setCell ⟨za, 0, none⟩ (.int .i64 zg)).setCell ⟨za, 1, none⟩ (.slice zq zj.length zr)).setCell ⟨za, 2, none⟩ (.slice zw zh.length zs))) := ⟨qB3 HB zf zk z2⟩
   (try clear zi)
   (try clear ze)
   (try clear zb)
   (try clear zc)
   (try clear zd)
   (try clear HB)
   generalize (((w27.setCell ⟨za, 0, none⟩ (.int .i64 zg)).setCell ⟨za, 1, none⟩ (.slice zq zj.length zr)).setCell ⟨za, 2, none⟩ (.slice zw zh.length zs)) = w34 at n0_ n1_ n2_ n3_ n4_ n5_ ⊢
   have zi := n0_
   have ze := n1_
   have zb := n2_
   have zc := n3_
   have zd := n4_
   have HB := n5_
   clear n0_ n1_ n2_ n3_ n4_ n5_
   replace zi := aM (Kd.R_drew zi.out)
   replace ze := aM (Kd.R_drew ze.out)
   replace zb := aM (blk_drew zb.out)
   replace zc := aM (blk_drew zc.out)
   replace zd := aM (blk_drew zd.out)
   replace HB := aM (below_drew1 HB.out)
   have p244 : 0 ≤ (a1 : Int) := of_decide_eq_true pD
   have q244 : a1 < (l0_2.length : Int) := of_decide_eq_true pD
   obtain ⟨ad244, e244, hx244_0⟩ := Kd.at_int z1.out a1 p244 q244
   have hw244_0 := hx244_0
   cases e244
   replace hx244_0 := (HB.out.cell (World.block_lt_of_cell? w _ hx244_0)).trans hx244_0
   replace p244 := eq_true p244
   replace q244 := eq_true q244
   refine start_ (n := 13) (S := fun w' => w'.cell? ⟨za, 0, none⟩ = some (.int .i64 zg) ∧ w'.cell? ⟨za, 1, none⟩ = some (.slice zq zj.length zr) ∧ w'.cell? ⟨za, 2, none⟩ = some (.slice zw zh.length zs) ∧ w'.cell? ⟨zt, 0, none⟩ = some (.int .i64 a0_0) ∧ w'.cell? ⟨zt, 1, none⟩ = some (.slice (some ad243) l0_1.length c0_1) ∧ w'.cell? ⟨zt, 2, none⟩ = some (.slice (some ad244) l0_2.length c0_2) ∧ w'.cell? (ad244.add (a1).toNat) = some (.int .i64 (rd l0_2 a1))) (ds := [12]) (bm 13 0) (by kernel_rfl) rfl rfl ⟨(blk_cell zd.out 0).trans rfl, (blk_cell zd.out 1).trans rfl, (blk_cell zd.out 2).trans rfl, (blk_cell zb.out 0).trans rfl, (blk_cell zb.out 1).trans rfl, (blk_cell zb.out 2).trans rfl, ((HB.out.cell (World.block_lt_of_cell? w _ hw244_0)).trans hw244_0)⟩ (fun hHeld => ?_); refine with_tabW view_Flip.tab8 view_Flip.bits8 (fun HT_ HW_ => ?_)
   generalize w34.drew = w35 at zi ze zb zc zd HB hx244_0 hHeld ⊢
   refine pP (i := 0) (N := some 31) (bm 13 1) rfl rfl HT_.out ?_
   refine pP (i := 2) (N := some 33) (bm 13 5) rfl rfl HT_.out ?_
   refine pP (i := 3) (N := some 34) (bm 13 13) rfl rfl HT_.out ?_
   refine pP (i := 4) (N := some 35) (bm 13 29) rfl rfl HT_.out ?_
   refine pP (i := 6) (N := some 37) (bm 13 93) rfl rfl HT_.out ?_
   refine pT (i := 1) (N := some 32) (bm 13 95) rfl rfl HT_.out HW_.out hHeld (by rintro w' ⟨s0, s1, s2, s3, s4, s5, s6⟩; go_simp; with_reducible rfl) ?_
   refine pT (i := 5) (N := some 36) (bm 13 127) rfl rfl HT_.out HW_.out hHeld (by rintro w' ⟨s0, s1, s2, s3, s4, s5, s6⟩; go_simp; with_reducible rfl) ?_
   refine pP (i := 7) (N := some 38) (bm 13 255) rfl rfl HT_.out ?_
   refine pT (i := 8) (N := some 39) (bm 13 511) rfl rfl HT_.out HW_.out hHeld (by rintro w' ⟨s0, s1, s2, s3, s4, s5, s6⟩; go_simp; with_reducible rfl) ?_
   refine pP (i := 9) (N := some 40) (bm 13 1023) rfl rfl HT_.out ?_
   refine pP (i := 10) (N := some 41) (bm 13 2047) rfl rfl HT_.out ?_
   refine pP (i := 11) (N := some 42) (bm 13 4095) rfl rfl HT_.out ?_
   refine last_ (i := 12) (N := none) (bm 13 8191) rfl rfl (one_of HT_.out (by kernel_rfl)) (by decide) (fun K hK => ?_)
   have hs36 : w35.cell? ⟨za, 0, none⟩ = some (.int .i64 zg) := (blk_cell zd.out 0).trans rfl
   have hfs36 := blk_frozen zd.out 0
   have hns36_0 := zp.out
   have hns36_1 := zo.out
   have hms36_0 := zu.out
   have hms36_1 := zv.out
   refine skip_ (w1 := ?_) (by rfl) rfl ?_ ?_
   rotate_left
   ·go_simp
    rfl
   refine hK.out _ _ ?_
   clear hK K
   refine done_ (done_of HT_.out (by kernel_rfl)) ?_
   try go_wp2
   have n0_ : Aside0 (Kd.R (Kd.int .i64) 3 (w35.setCell ⟨za, 0, none⟩ (.int .i64 (wrap64 (zg + (wrap64 ((wrap64 ((rd l0_1 a1) - 1)) * (rd l0_2 a1))))))) w.heap.size (fun k_ => some k_ ≠ (.slice zw zh.length zs : Value).ownBlock) (.slice zq zj.length zr) zj) := ⟨by (with_reducible repeat (first | apply rA | apply rN | apply rD)); exact Kd.R_mono (Kd.R_far (p := ⟨za, 0, none⟩) (Kd.R_types zi.out zd.out (by decide)) (fun _ hk => hk.2) (.int .i64 (wrap64 (zg + (wrap64 ((wrap64 ((rd l0_1 a1) - 1)) * (rd l0_2 a1))))))) (fun _ hk => hk.1)⟩
   have n1_ : Aside0 (Kd.R (Kd.int .i64) 3 (w35.setCell ⟨za, 0, none⟩ (.int .i64 (wrap64 (zg + (wrap64 ((wrap64 ((rd l0_1 a1) - 1)) * (rd l0_2 a1))))))) w.heap.size (fun k_ => some k_ ≠ (.slice zq zj.length zr : Value).ownBlock) (.slice zw zh.length zs) zh) := ⟨by (with_reducible repeat (first | apply rA | apply rN | apply rD)); exact Kd.R_mono (Kd.R_far (p := ⟨za, 0, none⟩) (Kd.R_types ze.out zd.out (by decide)) (fun _ hk => hk.2) (.int .i64 (wrap64 (zg + (wrap64 ((wrap64 ((rd l0_1 a1) - 1)) * (rd l0_2 a1))))))) (fun _ hk => hk.1)⟩
   have n2_ : Aside0 ((w35.setCell ⟨za, 0, none⟩ (.int .i64 (wrap64 (zg + (wrap64 ((wrap64 ((rd l0_1 a1) - 1)) * (rd l0_2 a1))))))).heap[zt]? = some (.cells #[.int .i64 a0_0, .slice (some ad243) l0_1.length c0_1, .slice (some ad244) l0_2.length c0_2] 44 (0, 0))) := ⟨by (with_reducible repeat (first | apply bN | apply bD | apply bA)); refine blk_far ?_ zp.out _; (with_reducible repeat (first | apply bN | apply bD | apply bA)); exact zb.out⟩
   have n3_ : Aside0 ((w35.setCell ⟨za, 0, none⟩ (.int .i64 (wrap64 (zg + (wrap64 ((wrap64 ((rd l0_1 a1) - 1)) * (rd l0_2 a1))))))).heap[zl]? = some (.cells #[.int .i64 0, .slice none 0 0, .slice none 0 0] 44 (0, 0))) := ⟨by (with_reducible repeat (first | apply bN | apply bD | apply bA)); refine blk_far ?_ zo.out _; (with_reducible repeat (first | apply bN | apply bD | apply bA)); exact zc.out⟩
   have n4_ : Aside0 ((w35.setCell ⟨za, 0, none⟩ (.int .i64 (wrap64 (zg + (wrap64 ((wrap64 ((rd l0_1 a1) - 1)) * (rd l0_2 a1))))))).heap[za]? = some (.cells #[.int .i64 (wrap64 (zg + (wrap64 ((wrap64 ((rd l0_1 a1) - 1)) * (rd l0_2 a1))))), .slice zq zj.length zr, .slice zw zh.length zs] 44 (0, 0))) := ⟨by (with_reducible repeat (first | apply bN | apply bD | apply bA)); refine blk_put (cs := #[.int .i64 zg, .slice zq zj.length zr, .slice zw zh.length zs]) ?_ 0 _ rfl; (with_reducible repeat (first | apply bN | apply bD | apply bA)); exact zd.out⟩
   have n5_ : Aside0 (Below w.heap.size w (w35.setCell ⟨za, 0, none⟩ (.int .i64 (wrap64 (zg + (wrap64 ((wrap64 ((rd l0_1 a1) - 1)) * (rd l0_2 a1)))))))) := ⟨qB3 HB zf zk z2⟩
   (try clear zi)
   (try clear ze)
   (try clear zb)
   (try clear zc)
   (try clear zd)
   (try clear HB)
   generalize (w35.setCell ⟨za, 0, none⟩ (.int .i64 (wrap64 (zg + (wrap64 ((wrap64 ((rd l0_1 a1) - 1)) * (rd l0_2 a1))))))) = w37 at n0_ n1_ n2_ n3_ n4_ n5_ ⊢
   have zi := n0_
   have ze := n1_
   have zb := n2_
   have zc := n3_
   have zd := n4_
   have HB := n5_
   clear n0_ n1_ n2_ n3_ n4_ n5_
   replace zi := aM (Kd.R_drew zi.out)
   replace ze := aM (Kd.R_drew ze.out)
   replace zb := aM (blk_drew zb.out)
   replace zc := aM (blk_drew zc.out)
   replace zd := aM (blk_drew zd.out)
   replace HB := aM (below_drew1 HB.out)
   have p245 : 0 ≤ (a1 : Int) := of_decide_eq_true pD
   have q245 : a1 < (l0_2.length : Int) := of_decide_eq_true pD
   obtain ⟨ad245, e245, hx245_0⟩ := Kd.at_int z1.out a1 p245 q245
   have hw245_0 := hx245_0
   obtain rfl : ad244 = ad245 := (by injection e245)
   replace hx245_0 := (HB.out.cell (World.block_lt_of_cell? w _ hx245_0)).trans hx245_0
   replace p245 := eq_true p245
   replace q245 := eq_true q245
   have p23 : 0 ≤ (a1 : Int) := of_decide_eq_true pD
   have q23 : (a1 : Int) < ((zh.length : Int) : Int) := of_decide_eq_true pD
   obtain ⟨go23, co23, zag, zah, gl23, cl23, HG23⟩ := Kd.R_form ze.out (by omega)
   (first | cases zag | (injection zag with ea_ en_ ec_; (first | subst ea_ | (injection ea_ with ea_; subst ea_)); subst ec_; clear en_))
   have GB23 := aM zah
   have GG23 := aM HG23
   clear zah gl23 HG23
   obtain ⟨hx23_0, hf23_0⟩ := Kd.R_celln 0 ze.out (a1 : Int) p23 q23
   replace p23 := eq_true p23
   replace q23 := eq_true q23
   have HP39 := Kd.R_putn ze.out (a1 : Int) (wrap64 (-(rd l0_2 a1)))
   rw [← Ny246.out] at HP39
   have HQ39 := aM HP39
   clear HP39
   refine start_ (n := 11) (S := fun w' => w'.cell? ⟨za, 0, none⟩ = some (.int .i64 (wrap64 (zg + (wrap64 ((wrap64 ((rd l0_1 a1) - 1)) * (rd l0_2 a1)))))) ∧ w'.cell? ⟨za, 1, none⟩ = some (.slice zq zj.length zr) ∧ w'.cell? ⟨za, 2, none⟩ = some (.slice (some ⟨go23, 0, none⟩) zh.length zs) ∧ w'.cell? ⟨zt, 0, none⟩ = some (.int .i64 a0_0) ∧ w'.cell? ⟨zt, 1, none⟩ = some (.slice (some ad243) l0_1.length c0_1) ∧ w'.cell? ⟨zt, 2, none⟩ = some (.slice (some ad244) l0_2.length c0_2) ∧ w'.cell? (ad244.add (a1).toNat) = some (.int .i64 (rd l0_2 a1))) (ds := [10]) (bm 11 0) (by kernel_rfl) rfl rfl ⟨(blk_cell zd.out 0).trans rfl, (blk_cell zd.out 1).trans rfl, (blk_cell zd.out 2).trans rfl, (blk_cell zb.out 0).trans rfl, (blk_cell zb.out 1).trans rfl, (blk_cell zb.out 2).trans rfl, ((HB.out.cell (World.block_lt_of_cell? w _ hw245_0)).trans hw245_0)⟩ (fun hHeld => ?_); refine with_tabW view_Flip.tab9 view_Flip.bits9 (fun HT_ HW_ => ?_)
   generalize w37.drew = w38 at zi ze zb zc zd HB GG23 HQ39 hf23_0 hx23_0 hx245_0 hHeld ⊢
   refine pP (i := 0) (N := some 43) (bm 11 1) rfl rfl HT_.out ?_
   refine pP (i := 2) (N := some 45) (bm 11 5) rfl rfl HT_.out ?_
   refine pP (i := 3) (N := some 46) (bm 11 13) rfl rfl HT_.out ?_
   refine pP (i := 5) (N := some 48) (bm 11 45) rfl rfl HT_.out ?_
   refine pT (i := 1) (N := some 44) (bm 11 47) rfl rfl HT_.out HW_.out hHeld (by rintro w' ⟨s0, s1, s2, s3, s4, s5, s6⟩; go_simp; with_reducible rfl) ?_
   refine pT (i := 4) (N := some 47) (bm 11 63) rfl rfl HT_.out HW_.out hHeld (by rintro w' ⟨s0, s1, s2, s3, s4, s5, s6⟩; go_simp; with_reducible rfl) ?_
   refine pP (i := 6) (N := some 49) (bm 11 127) rfl rfl HT_.out ?_
   refine pT (i := 7) (N := some 50) (bm 11 255) rfl rfl HT_.out HW_.out hHeld (by rintro w' ⟨s0, s1, s2, s3, s4, s5, s6⟩; go_simp; with_reducible rfl) ?_
   refine pP (i := 8) (N := some 51) (bm 11 511) rfl rfl HT_.out ?_
   refine pP (i := 9) (N := some 52) (bm 11 1023) rfl rfl HT_.out ?_
   refine last_ (i := 10) (N := none) (bm 11 2047) rfl rfl (one_of HT_.out (by kernel_rfl)) (by decide) (fun K hK => ?_)
   refine skip_ (w1 := ?_) (by rfl) rfl ?_ ?_
   rotate_left
   ·go_simp
    rfl
   refine hK.out _ _ ?_
   clear hK K
   refine done_ (done_of HT_.out (by kernel_rfl)) ?_
   have n0_ : Aside0 (Kd.R (Kd.int .i64) 3 (w38.setCell ⟨go23, (a1 : Int).toNat, none⟩ (.int .i64 (wrap64 (-(rd l0_2 a1))))) w.heap.size (fun k_ => some k_ ≠ (.slice (some ⟨go23, 0, none⟩) zh.length zs : Value).ownBlock) (.slice zq zj.length zr) zj) := ⟨by (with_reducible repeat (first | apply rA | apply rN | apply rD)); exact Kd.R_mono (Kd.R_far (p := ⟨go23, (a1 : Int).toNat, none⟩) (Kd.R_mono zi.out (fun k_ hk => (⟨hk, fun e_ => hk (by rw [e_]; rfl)⟩ : _ ∧ k_ ≠ go23))) (fun _ hk => hk.2) (.int .i64 (wrap64 (-(rd l0_2 a1))))) (fun _ hk => hk.1)⟩
   have n1_ : Aside0 (Kd.R (Kd.int .i64) 3 (w38.setCell ⟨go23, (a1 : Int).toNat, none⟩ (.int .i64 (wrap64 (-(rd l0_2 a1))))) w.heap.size (fun k_ => some k_ ≠ (.slice zq zj.length zr : Value).ownBlock) (.slice (some ⟨go23, 0, none⟩) zh.length zs) zaf) := ⟨pR HQ39.out⟩
   have n2_ : Aside0 ((w38.setCell ⟨go23, (a1 : Int).toNat, none⟩ (.int .i64 (wrap64 (-(rd l0_2 a1))))).heap[zt]? = some (.cells #[.int .i64 a0_0, .slice (some ad243) l0_1.length c0_1, .slice (some ad244) l0_2.length c0_2] 44 (0, 0))) := ⟨by (with_reducible repeat (first | apply bN | apply bD | apply bA)); refine blk_far ?_ (by have h_ := Kd.R_ne ze.out zb.out (by decide); intro e_; exact h_ (by rw [e_]; rfl)) _; (with_reducible repeat (first | apply bN | apply bD | apply bA)); exact zb.out⟩
   have n3_ : Aside0 ((w38.setCell ⟨go23, (a1 : Int).toNat, none⟩ (.int .i64 (wrap64 (-(rd l0_2 a1))))).heap[zl]? = some (.cells #[.int .i64 0, .slice none 0 0, .slice none 0 0] 44 (0, 0))) := ⟨by (with_reducible repeat (first | apply bN | apply bD | apply bA)); refine blk_far ?_ (by have h_ := Kd.R_ne ze.out zc.out (by decide); intro e_; exact h_ (by rw [e_]; rfl)) _; (with_reducible repeat (first | apply bN | apply bD | apply bA)); exact zc.out⟩
   have n4_ : Aside0 ((w38.setCell ⟨go23, (a1 : Int).toNat, none⟩ (.int .i64 (wrap64 (-(rd l0_2 a1))))).heap[za]? = some (.cells #[.int .i64 (wrap64 (zg + (wrap64 ((wrap64 ((rd l0_1 a1) - 1)) * (rd l0_2 a1))))), .slice zq zj.length zr, .slice (some ⟨go23, 0, none⟩) zh.length zs] 44 (0, 0))) := ⟨by (with_reducible repeat (first | apply bN | apply bD | apply bA)); refine blk_far ?_ (by have h_ := Kd.R_ne ze.out zd.out (by decide); intro e_; exact h_ (by rw [e_]; rfl)) _; (with_reducible repeat (first | apply bN | apply bD | apply bA)); exact zd.out⟩
   have n5_ : Aside0 (Below w.heap.size w (w38.setCell ⟨go23, (a1 : Int).toNat, none⟩ (.int .i64 (wrap64 (-(rd l0_2 a1)))))) := ⟨qB4 HB GB23 zf zk z2⟩
   (try clear zi)
   (try clear ze)
   (try clear zb)
   (try clear zc)
   (try clear zd)
   (try clear HB)
   generalize (w38.setCell ⟨go23, (a1 : Int).toNat, none⟩ (.int .i64 (wrap64 (-(rd l0_2 a1))))) = w40 at n0_ n1_ n2_ n3_ n4_ n5_ ⊢
   have zi := n0_
   have ze := n1_
   have zb := n2_
   have zc := n3_
   have zd := n4_
   have HB := n5_
   clear n0_ n1_ n2_ n3_ n4_ n5_
   obtain ⟨hcz41_0, hcz41_1, hcz41_2, hfz41_0, hfz41_1, hfz41_2⟩ := blk3 zd.out
   obtain ⟨hcz42_0, hcz42_1, hcz42_2, hfz42_0, hfz42_1, hfz42_2⟩ := blk3 zc.out
   try go_wp2
   refine bodyPost_ret (results_ct rfl _ _ zl 44 #[.int .i64 (wrap64 (zg + (wrap64 ((wrap64 ((rd l0_1 a1) - 1)) * (rd l0_2 a1))))), .slice zq zj.length zr, .slice (some ⟨go23, 0, none⟩) zh.length zs] (0, 0) _ rfl (by exact P3 zc) Try.underlying44 rfl (by kernel_rfl)) rfl ?_
   exact ⟨_, _, pE, by (with_reducible repeat (first | apply rA | apply rN | apply rD)); exact Kd.R_mono (Kd.R_far (p := ⟨zl, 2, none⟩) (Kd.R_far (p := ⟨zl, 1, none⟩) (Kd.R_far (p := ⟨zl, 0, none⟩) (Kd.R_types zi.out zc.out (by decide)) (fun _ hk => hk.2) (.int .i64 (wrap64 (zg + (wrap64 ((wrap64 ((rd l0_1 a1) - 1)) * (rd l0_2 a1))))))) (fun _ hk => hk.2) (.slice zq zj.length zr)) (fun _ hk => hk.2) (.slice (some ⟨go23, 0, none⟩) zh.length zs)) (fun _ hk => hk.1), by (with_reducible repeat (first | apply rA | apply rN | apply rD)); exact Kd.R_mono (Kd.R_far (p := ⟨zl, 2, none⟩) (Kd.R_far (p := ⟨zl, 1, none⟩) (Kd.R_far (p := ⟨zl, 0, none⟩) (Kd.R_types ze.out zc.out (by decide)) (fun _ hk => hk.2) (.int .i64 (wrap64 (zg + (wrap64 ((wrap64 ((rd l0_1 a1) - 1)) * (rd l0_2 a1))))))) (fun _ hk => hk.2) (.slice zq zj.length zr)) (fun _ hk => hk.2) (.slice (some ⟨go23, 0, none⟩) zh.length zs)) (fun _ hk => hk.1), qB3 HB zf zk z2⟩
mutual
def shape_Axes.j0 : Nat → Int → List Int → Bool → Option (List Bool × Int)
 | 0, _, _, _ => none
 | k + 1, x0, x1, x15 => if x15 = true then (some (([] : List Bool), 9)) else (if 0 ≤ x0 then (if (x0 : Int).toNat ≤ 281474976710656 then (shape_Axes.l0 k x0 x1 (List.replicate (x0 : Int).toNat false) x1 (x1.length : Int) 0) else (none)) else (none))
def shape_Axes.l0 : Nat → Int → List Int → List Bool → List Int → Int → Int → Option (List Bool × Int)
 | 0, _, _, _, _, _, _ => none
 | k + 1, x0, x1, x6, x18, x19, x20 => if x20 < x19 then (if 0 ≤ x20 then (if x20 < (x18.length : Int) then (if (rd x18 x20) < 0 then (some (([] : List Bool), 10)) else (if (rd x18 x20) ≥ x0 then (some (([] : List Bool), 10)) else (if 0 ≤ (rd x18 x20) then (if (rd x18 x20) < (x6.length : Int) then (if rdOf false x6 (rd x18 x20) = true then (some (([] : List Bool), 10)) else (shape_Axes.l0 k x0 x1 (x6.set ((rd x18 x20) : Int).toNat true) x18 x19 (wrap64 (x20 + 1)))) else (none)) else (none)))) else (none)) else (none)) else (if (x1.length : Int) = 0 then (shape_Axes.l1 k x6 (x6.length : Int) 0) else (some (x6, 0)))
def shape_Axes.l1 : Nat → List Bool → Int → Int → Option (List Bool × Int)
 | 0, _, _, _ => none
 | k + 1, x6, x45, x46 => if x46 < x45 then (if 0 ≤ x46 then (if x46 < (x6.length : Int) then (shape_Axes.l1 k (x6.set (x46 : Int).toNat true) x45 (wrap64 (x46 + 1))) else (none)) else (none)) else (some (x6, 0))
end
def shape_Axes.f (k : Nat) (a0 : Int) (l1 : List Int) : Option (List Bool × Int) := if a0 < 0 then (shape_Axes.j0 k a0 l1 true) else (shape_Axes.j0 k a0 l1 (decide (a0 > 6)))
set_option maxHeartbeats 8000000 in
set_option maxRecDepth 100000 in
theorem shape_Axes.calls (k : Nat) (a0 : Int) (A1 : Option Addr) (c1 : Nat) (l1 : List Int) (r1 : List Bool) (r2 : Int) (w : World) (hr1 : Kd.C (Kd.int .i64) w A1 l1.length l1) (hc1 : l1.length ≤ c1) (h : shape_Axes.f k a0 l1 = some (r1, r2)) :
  Calls Try.prog 89 #[.int .i64 a0, .slice A1 l1.length c1] w fun e w' => ∃ v0_ : Value, e = .returned (.tuple #[v0_, .int .i64 r2]) ∧ Kd.R Kd.bool 4 w' w.heap.size (fun _ => True) v0_ r1 ∧ Below w.heap.size w w' := by
 have HR1 := aM hr1
 have HC1 := aM hc1
 clear hr1 hc1
 have HB := aM (Below.refl w.heap.size w)
 have H : (if a0 < 0 then (shape_Axes.j0 k a0 l1 true) else (shape_Axes.j0 k a0 l1 (decide (a0 > 6)))) = some (r1, r2) := h
 clear h
 have HC3 := aM H
 clear H
 go_enter Try.func89, Try.ntmps89
 go_upto_region 1 with (fail)
 go_cut [15] (fun v15 wc => ∃ (kq : Nat) (x15_2 : Bool), v15 = .bool x15_2 ∧ Aside0 (shape_Axes.j0 kq a0 l1 x15_2 = some (r1, r2)) ∧ Aside0 (kq ≤ k) ∧ Aside0 (Below w.heap.size w wc))
 case first =>
  have H := HC3.out
  clear HC3
  by_cases c4 : a0 < 0
  ·rw [if_pos c4] at H
   have zb : decide (a0 < 0) = true := decide_eq_true c4
   clear c4
   (first | rw [zb] | (simp only [i64_w, i32_w]; rw [zb]) | skip)
   have H' := aM H
   clear H
   go_wp2
   go_meet
   case rel => exact ⟨_, (true), (pF), H', ⟨by first | omega | exact Nat.le_refl _⟩, ⟨qB HB⟩⟩
  rw [if_neg c4] at H
  have zb : decide (a0 < 0) = false := decide_eq_false c4
  clear c4
  (first | rw [zb] | (simp only [i64_w, i32_w]; rw [zb]) | skip)
  have H' := aM H
  clear H
  go_wp2
  go_meet
  case rel => exact ⟨_, (decide (a0 > 6)), (pF), H', ⟨by first | omega | exact Nat.le_refl _⟩, ⟨qB HB⟩⟩
 case rest =>
  clear HC3
  try clear c1
  obtain ⟨kq, x15_2, rfl, HA, HJ2, HB⟩ := hcut
  cases kq with
  | zero => exact absurd HA.out (by simp [shape_Axes.j0])
  | succ kj2 =>
   have H := HA.out
   clear HA
   simp only [shape_Axes.j0] at H
   by_cases c5 : x15_2 = true
   ·subst c5
    rw [if_pos rfl] at H
    simp only [Option.some.injEq, Prod.mk.injEq] at H
    obtain ⟨rfl, rfl⟩ := H
    go_wp2
    go_ret2
    exact ⟨_, pE, pN, qB HB⟩
   replace c5 := Bool.eq_false_iff.mpr c5
   subst c5
   rw [if_neg (show ¬ (false = true) by decide)] at H
   by_cases c6 : 0 ≤ a0
   rotate_left
   ·rw [if_neg c6] at H
    exact absurd H (by simp)
   rw [if_pos c6] at H
   have c6b0 := eq_true c6
   have c6b1 : decide (0 ≤ a0) = true := decide_eq_true c6
   clear c6
   by_cases c7 : (a0 : Int).toNat ≤ 281474976710656
   rotate_left
   ·rw [if_neg c7] at H
    exact absurd H (by simp)
   rw [if_pos c7] at H
   have c7b0 := eq_true c7
   have c7b1 : decide ((a0 : Int).toNat ≤ 281474976710656) = true := decide_eq_true c7
   clear c7
   obtain ⟨zm, zc⟩ : ∃ y_ : List Bool, y_ = (List.replicate (a0 : Int).toNat false) := ⟨_, rfl⟩
   replace H : (shape_Axes.l0 kj2 a0 l1 zm l1 (l1.length : Int) 0) = some (r1, r2) := pH zc H
   have zg := aM zc
   clear zc
   have H' := aM H
   clear H
   go_wp2_with (first | ((with_reducible refine gate_dst (N := 17) rfl ?_); refine Kd.R_make Kd.bool _ 4 rfl (N := 17) rfl 93 _ _ rfl a0 rfl rfl Try.underlying93 (.bool false) 1 info4 rfl (by decide) (by omega) false (ok := fun _ => True) (okp := fun _ => True) rfl (fun _ hk => hk) trivial (of_decide_eq_true pD) (Nat.le_trans (Nat.mul_le_mul_right _ (of_decide_eq_true pD : a0.toNat ≤ 281474976710656)) (by omega)) (Below.refl _ _) (Nat.le_refl _) ?_; intro v139 w8 ho9 hb hg_ hnew_; clear hg_ hnew_; (first | rw [← zg.out] at ho9 | (simp only [Int.reduceToNat] at ho9; rw [← zg.out] at ho9)); have HO140 := aM (Kd.R_lower ho9 (below_size (qB HB))); replace HB := bS (qB HB) hb; clear hb ho9))
   go_loopg [20] kj2 (fun kq v20 w' => ∃ (x6_2 : List Bool) (x20_2 : Int), v20 = .int .i64 x20_2 ∧ Aside0 (shape_Axes.l0 kq a0 l1 x6_2 l1 (l1.length : Int) x20_2 = some (r1, r2)) ∧ Aside0 (kq ≤ kj2) ∧ Aside0 (Kd.R Kd.bool 4 w' w.heap.size (fun _ => True) v139 x6_2) ∧ Aside0 (Below w.heap.size w w'))
   case atStart => exact ⟨(zm), (0), (pF), H', ⟨Nat.le_refl _⟩, ⟨pR HO140.out⟩, ⟨qB HB⟩⟩
   case round =>
    clear H'
    try clear c5
    try clear c6b0
    try clear c6b1
    try clear c7b0
    try clear c7b1
    obtain ⟨x6_2, x20_2, rfl, HA, HK2, za, HB⟩ := hrel
    cases gk with
    | zero => exact absurd HA.out (by simp [shape_Axes.l0])
    | succ k2 =>
     have H := HA.out
     clear HA
     simp only [shape_Axes.l0] at H
     by_cases c10 : x20_2 < (l1.length : Int)
     ·rw [if_pos c10] at H
      have zh : decide (x20_2 < (l1.length : Int)) = true := decide_eq_true c10
      clear c10
      by_cases c11 : 0 ≤ x20_2
      rotate_left
      ·rw [if_neg c11] at H
       exact absurd H (by simp)
      rw [if_pos c11] at H
      have c11b0 : decide (0 ≤ x20_2) = true := decide_eq_true c11
      clear c11
      by_cases c12 : x20_2 < (l1.length : Int)
      rotate_left
      ·rw [if_neg c12] at H
       exact absurd H (by simp)
      rw [if_pos c12] at H
      have c12b0 : decide (x20_2 < (l1.length : Int)) = true := decide_eq_true c12
      clear c12
      by_cases c13 : (rd l1 x20_2) < 0
      ·rw [if_pos c13] at H
       have c13b0 : decide ((rd l1 x20_2) < 0) = true := decide_eq_true c13
       clear c13
       simp only [Option.some.injEq, Prod.mk.injEq] at H
       obtain ⟨rfl, rfl⟩ := H
       have p141 : 0 ≤ (x20_2 : Int) := of_decide_eq_true pD
       have q141 : x20_2 < (l1.length : Int) := of_decide_eq_true pD
       obtain ⟨ad141, e141, hx141_0⟩ := Kd.at_int HR1.out x20_2 p141 q141
       cases e141
       replace hx141_0 := (HB.out.cell (World.block_lt_of_cell? w _ hx141_0)).trans hx141_0
       replace p141 := eq_true p141
       replace q141 := eq_true q141
       go_wp2
       go_ret2
       exact ⟨_, pE, pN, qB HB⟩
      rw [if_neg c13] at H
      have c13b0 : decide ((rd l1 x20_2) < 0) = false := decide_eq_false c13
      clear c13
      by_cases c14 : (rd l1 x20_2) ≥ a0
      ·rw [if_pos c14] at H
       have c14b0 : decide (a0 ≤ (rd l1 x20_2)) = true := decide_eq_true c14
       clear c14
       simp only [Option.some.injEq, Prod.mk.injEq] at H
       obtain ⟨rfl, rfl⟩ := H
       have p141 : 0 ≤ (x20_2 : Int) := of_decide_eq_true pD
       have q141 : x20_2 < (l1.length : Int) := of_decide_eq_true pD
       obtain ⟨ad141, e141, hx141_0⟩ := Kd.at_int HR1.out x20_2 p141 q141
       cases e141
       replace hx141_0 := (HB.out.cell (World.block_lt_of_cell? w _ hx141_0)).trans hx141_0
       replace p141 := eq_true p141
       replace q141 := eq_true q141
       go_wp2
       go_ret2
       exact ⟨_, pE, pN, qB HB⟩
      rw [if_neg c14] at H
      have c14b0 : decide (a0 ≤ (rd l1 x20_2)) = false := decide_eq_false c14
      clear c14
      by_cases c15 : 0 ≤ (rd l1 x20_2)
      rotate_left
      ·rw [if_neg c15] at H
       exact absurd H (by simp)
      rw [if_pos c15] at H
      have c15b0 : decide (0 ≤ (rd l1 x20_2)) = true := decide_eq_true c15
      clear c15
      by_cases c16 : (rd l1 x20_2) < (x6_2.length : Int)
      rotate_left
      ·rw [if_neg c16] at H
       exact absurd H (by simp)
      rw [if_pos c16] at H
      have c16b0 : decide ((rd l1 x20_2) < (x6_2.length : Int)) = true := decide_eq_true c16
      clear c16
      obtain ⟨bq17, hbq17⟩ : ∃ b_ : Bool, b_ = (rdOf false x6_2 (rd l1 x20_2)) := ⟨_, rfl⟩
      replace H : (if bq17 = true then (some (([] : List Bool), 10)) else (shape_Axes.l0 k2 a0 l1 (x6_2.set ((rd l1 x20_2) : Int).toNat true) l1 (l1.length : Int) (wrap64 (x20_2 + 1)))) = some (r1, r2) := by rw [← hbq17] at H; exact H
      have Nbq17 := aM hbq17
      clear hbq17
      by_cases c18 : bq17 = true
      ·subst c18
       rw [if_pos rfl] at H
       simp only [Option.some.injEq, Prod.mk.injEq] at H
       obtain ⟨rfl, rfl⟩ := H
       have p141 : 0 ≤ (x20_2 : Int) := of_decide_eq_true pD
       have q141 : x20_2 < (l1.length : Int) := of_decide_eq_true pD
       obtain ⟨ad141, e141, hx141_0⟩ := Kd.at_int HR1.out x20_2 p141 q141
       cases e141
       replace hx141_0 := (HB.out.cell (World.block_lt_of_cell? w _ hx141_0)).trans hx141_0
       replace p141 := eq_true p141
       replace q141 := eq_true q141
       obtain ⟨Ao19, co19, eo19⟩ := Kd.R_slice za.out
       subst eo19
       have p142 : 0 ≤ ((rd l1 x20_2) : Int) := of_decide_eq_true pD
       have q142 : (rd l1 x20_2) < (x6_2.length : Int) := of_decide_eq_true pD
       obtain ⟨ad142, e142, hx142_0⟩ := Kd.at_bool (Kd.R_reads' za.out).2.2 (rd l1 x20_2) p142 q142
       (try rw [← Nbq17.out] at hx142_0)
       cases e142
       replace p142 := eq_true p142
       replace q142 := eq_true q142
       go_wp2
       go_ret2
       exact ⟨_, pE, pN, qB HB⟩
      replace c18 := Bool.eq_false_iff.mpr c18
      subst c18
      rw [if_neg (show ¬ (false = true) by decide)] at H
      obtain ⟨zk, zd⟩ : ∃ y_ : List Bool, y_ = (x6_2.set ((rd l1 x20_2) : Int).toNat true) := ⟨_, rfl⟩
      replace H : (shape_Axes.l0 k2 a0 l1 zk l1 (l1.length : Int) (wrap64 (x20_2 + 1))) = some (r1, r2) := pH zd H
      have Ny143 := aM zd
      clear zd
      have H' := aM H
      clear H
      have p141 : 0 ≤ (x20_2 : Int) := of_decide_eq_true pD
      have q141 : x20_2 < (l1.length : Int) := of_decide_eq_true pD
      obtain ⟨ad141, e141, hx141_0⟩ := Kd.at_int HR1.out x20_2 p141 q141
      cases e141
      replace hx141_0 := (HB.out.cell (World.block_lt_of_cell? w _ hx141_0)).trans hx141_0
      replace p141 := eq_true p141
      replace q141 := eq_true q141
      obtain ⟨Ao21, co21, eo21⟩ := Kd.R_slice za.out
      subst eo21
      have p142 : 0 ≤ ((rd l1 x20_2) : Int) := of_decide_eq_true pD
      have q142 : (rd l1 x20_2) < (x6_2.length : Int) := of_decide_eq_true pD
      obtain ⟨ad142, e142, hx142_0⟩ := Kd.at_bool (Kd.R_reads' za.out).2.2 (rd l1 x20_2) p142 q142
      (try rw [← Nbq17.out] at hx142_0)
      cases e142
      replace p142 := eq_true p142
      replace q142 := eq_true q142
      have p20 : 0 ≤ ((rd l1 x20_2) : Int) := of_decide_eq_true pD
      have q20 : ((rd l1 x20_2) : Int) < ((x6_2.length : Int) : Int) := of_decide_eq_true pD
      obtain ⟨go20, co20, zn, zo, gl20, cl20, HG20⟩ := Kd.R_form za.out (by omega)
      (first | cases zn | (injection zn with ea_ en_ ec_; (first | subst ea_ | (injection ea_ with ea_; subst ea_)); subst ec_; clear en_))
      have GB20 := aM zo
      have GG20 := aM HG20
      clear zo gl20 HG20
      (first | simp only [add_plain] at hx142_0 | skip)
      obtain ⟨hx20_0, hf20_0⟩ := Kd.R_celln false za.out ((rd l1 x20_2) : Int) p20 q20
      replace p20 := eq_true p20
      replace q20 := eq_true q20
      have HP22 := Kd.R_putg za.out ((rd l1 x20_2) : Int) true
      go_wp2_with (first | ((with_reducible refine gate_store (t := 4) (p := 39) rfl ?_); refine store_event (t := 4) (p := 39) (v := ?vo_w23) (w1 := (wr.setCell ⟨go20, ((rd l1 x20_2) : Int).toNat, none⟩ (.bool true))) ?hg ?ho ?hn ?hr ?_; (case ho => rfl); (case hg => rfl); (case hn => rfl); (case hr => first | (go_simp; done) | (go_simp; rfl)); intro w23 hw; have hg : wr.grownBy w23 (some go20) := (by rw [hw]; exact HP22.2); have hp_ : Kd.R Kd.bool 4 w23 w.heap.size (fun _ => True) (.slice (some ⟨go20, 0, none⟩) x6_2.length co21) zk := (by rw [hw, Ny143.out]; exact HP22.1); clear HP22; replace za := aM (hp_); replace HB := aM ((by rw [hw]; exact below_set (HB.out) GB20.out : Below w.heap.size w w23)); clear hg hw hp_))
      go_roundg k2
      case measure => have := HJ2.out; have := HK2.out; omega
      case rel => exact ⟨(zk), (wrap64 (x20_2 + 1)), (pF), H', ⟨by have := HJ2.out; have := HK2.out; omega⟩, ⟨pR za.out⟩, ⟨qB HB⟩⟩
     rw [if_neg c10] at H
     have zh : decide (x20_2 < (l1.length : Int)) = false := decide_eq_false c10
     clear c10
     by_cases c24 : (l1.length : Int) = 0
     rotate_left
     ·rw [if_neg c24] at H
      have zi : ((l1.length : Int) == 0) = false := beq_eq_false_iff_ne.mpr c24
      have zj : ((l1.length : Int) != 0) = true := bne_iff_ne.mpr c24
      have c24b2 : ¬ (l1 = []) := fun h_ => c24 (by rw [h_]; rfl)
      simp only [Option.some.injEq, Prod.mk.injEq] at H
      obtain ⟨rfl, rfl⟩ := H
      go_wp2
      go_ret2
      exact ⟨_, pE, pR za.out, qB HB⟩
     rw [if_pos c24] at H
     have zi : ((l1.length : Int) == 0) = true := beq_iff_eq.mpr c24
     have zj : ((l1.length : Int) != 0) = false := bne_eq_false_iff_eq.mpr c24
     clear c24
     have H' := aM H
     clear H
     obtain ⟨Ao25, zp, eo25⟩ := Kd.R_slice za.out
     subst eo25
     go_wp2
     go_loopg [46] k2 (fun kq v46 w' => ∃ (x6_3 : List Bool) (x46_3 : Int), v46 = .int .i64 x46_3 ∧ Aside0 (shape_Axes.l1 kq x6_3 (x6_2.length : Int) x46_3 = some (r1, r2)) ∧ Aside0 (kq ≤ k2) ∧ Aside0 (Kd.R Kd.bool 4 w' w.heap.size (fun _ => True) (.slice Ao25 x6_2.length zp) x6_3) ∧ Aside0 (Below w.heap.size w w'))
     case atStart => exact ⟨(x6_2), (0), (pF), H', ⟨Nat.le_refl _⟩, ⟨pR za.out⟩, ⟨qB HB⟩⟩
     case round =>
      clear H'
      try clear zh
      try clear zi
      try clear zj
      obtain ⟨x6_3, x46_3, rfl, HA, HK3, za, HB⟩ := hrel
      have hl6_3 := (Kd.R_reads' za.out).1
      rw [hl6_3] at za
      (try simp only [hl6_3])
      cases gk with
      | zero => exact absurd HA.out (by simp [shape_Axes.l1])
      | succ k3 =>
       have H := HA.out
       clear HA
       simp only [shape_Axes.l1] at H
       by_cases c26 : x46_3 < (x6_2.length : Int)
       rotate_left
       ·rw [if_neg c26] at H
        have ze : decide (x46_3 < (x6_2.length : Int)) = false := decide_eq_false c26
        (try simp only [hl6_3] at ze)
        clear c26
        simp only [Option.some.injEq, Prod.mk.injEq] at H
        obtain ⟨rfl, rfl⟩ := H
        go_wp2
        go_ret2
        exact ⟨_, pE, pR za.out, qB HB⟩
       rw [if_pos c26] at H
       have ze : decide (x46_3 < (x6_2.length : Int)) = true := decide_eq_true c26
       (try simp only [hl6_3] at ze)
       clear c26
       by_cases c27 : 0 ≤ x46_3
       rotate_left
       ·rw [if_neg c27] at H
        exact absurd H (by simp)
       rw [if_pos c27] at H
       have c27b0 : decide (0 ≤ x46_3) = true := decide_eq_true c27
       clear c27
       by_cases c28 : x46_3 < (x6_3.length : Int)
       rotate_left
       ·rw [if_neg c28] at H
        exact absurd H (by simp)
       rw [if_pos c28] at H
       have c28b0 : decide (x46_3 < (x6_3.length : Int)) = true := decide_eq_true c28
       (try simp only [hl6_3] at c28b0)
       clear c28
       obtain ⟨zl, zf⟩ : ∃ y_ : List Bool, y_ = (x6_3.set (x46_3 : Int).toNat true) := ⟨_, rfl⟩
       replace H : (shape_Axes.l1 k3 zl (x6_2.length : Int) (wrap64 (x46_3 + 1))) = some (r1, r2) := pH zf H
       have Ny144 := aM zf
       clear zf
       have H' := aM H
       clear H
       have p29 : 0 ≤ (x46_3 : Int) := of_decide_eq_true pD
       have q29 : (x46_3 : Int) < ((x6_3.length : Int) : Int) := of_decide_eq_true pD
       obtain ⟨go29, co29, zq, zr, gl29, cl29, HG29⟩ := Kd.R_form za.out (by omega)
       (first | cases zq | (injection zq with ea_ en_ ec_; (first | subst ea_ | (injection ea_ with ea_; subst ea_)); subst ec_; clear en_))
       have GB29 := aM zr
       have GG29 := aM HG29
       clear zr gl29 HG29
       obtain ⟨hx29_0, hf29_0⟩ := Kd.R_celln false za.out (x46_3 : Int) p29 q29
       replace p29 := eq_true p29
       replace q29 := eq_true q29
       have HP30 := Kd.R_putg za.out (x46_3 : Int) true
       go_wp2_with (first | ((with_reducible refine gate_store (t := 4) (p := 51) rfl ?_); refine store_event (t := 4) (p := 51) (v := ?vo_w31) (w1 := (wr.setCell ⟨go29, (x46_3 : Int).toNat, none⟩ (.bool true))) ?hg ?ho ?hn ?hr ?_; (case ho => rfl); (case hg => rfl); (case hn => rfl); (case hr => first | (go_simp; done) | (go_simp; rfl)); intro w31 hw; have hg : wr.grownBy w31 (some go29) := (by rw [hw]; exact HP30.2); have hp_ : Kd.R Kd.bool 4 w31 w.heap.size (fun _ => True) (.slice (some ⟨go29, 0, none⟩) x6_3.length zp) zl := (by rw [hw, Ny144.out]; exact HP30.1); clear HP30; replace za := aM (hp_); replace HB := aM ((by rw [hw]; exact below_set (HB.out) GB29.out : Below w.heap.size w w31)); clear hg hw hp_))
       (try simp only [← hl6_3])
       go_roundg k3
       case measure => have := HJ2.out; have := HK2.out; have := HK3.out; omega
       case rel => exact ⟨(zl), (wrap64 (x46_3 + 1)), (pF), H', ⟨by have := HJ2.out; have := HK2.out; have := HK3.out; omega⟩, ⟨by (try simp only [hl6_3]); (with_reducible repeat (first | apply rA | apply rN | apply rD)); exact za.out⟩, ⟨qB HB⟩⟩
def shape_Perm.l0 : Nat → List Int → List Int → List Int → Int → Int → Option (List Int × Int)
 | 0, _, _, _, _, _ => none
 | k + 1, x0, x9, x32, x33, x34 => if x34 < x33 then (if 0 ≤ x34 then (if x34 < (x32.length : Int) then (if 0 ≤ (rd x32 x34) then (if (rd x32 x34) < (x0.length : Int) then (if x9.length < 17592186044416 then (shape_Perm.l0 k x0 (x9 ++ [rd x0 (rd x32 x34)]) x32 x33 (wrap64 (x34 + 1))) else (none)) else (none)) else (none)) else (none)) else (none)) else (some (x9, 0))
def shape_Perm.f (k : Nat) (l0 : List Int) (l1 : List Int) : Option (List Int × Int) := (shape_Check.f l0).bind fun za => (if za = 0 then (if (l1.length : Int) = (l0.length : Int) then ((shape_Axes.f k (l0.length : Int) l1).bind fun bt146 => (if bt146.2 = 0 then (shape_Perm.l0 k l0 ([] : List Int) l1 (l1.length : Int) 0) else (some (([] : List Int), bt146.2)))) else (some (([] : List Int), 10))) else (some (([] : List Int), za)))
set_option maxHeartbeats 8000000 in
set_option maxRecDepth 100000 in
theorem shape_Perm.calls (k : Nat) (A0 : Option Addr) (c0 : Nat) (l0 : List Int) (A1 : Option Addr) (c1 : Nat) (l1 : List Int) (r1 : List Int) (r2 : Int) (w : World) (hr0 : Kd.C (Kd.int .i64) w A0 l0.length l0) (hc0 : l0.length ≤ c0) (hr1 : Kd.C (Kd.int .i64) w A1 l1.length l1) (hc1 : l1.length ≤ c1) (h : shape_Perm.f k l0 l1 = some (r1, r2)) :
  Calls Try.prog 71 #[.slice A0 l0.length c0, .slice A1 l1.length c1] w fun e w' => ∃ v0_ : Value, e = .returned (.tuple #[v0_, .int .i64 r2]) ∧ Kd.R (Kd.int .i64) 3 w' w.heap.size (fun _ => True) v0_ r1 ∧ Below w.heap.size w w' := by
 have HR0 := aM hr0
 have HC0 := aM hc0
 clear hr0 hc0
 have HR1 := aM hr1
 have HC1 := aM hc1
 clear hr1 hc1
 have HB := aM (Below.refl w.heap.size w)
 have H : ((shape_Check.f l0).bind fun za => (if za = 0 then (if (l1.length : Int) = (l0.length : Int) then ((shape_Axes.f k (l0.length : Int) l1).bind fun bt146 => (if bt146.2 = 0 then (shape_Perm.l0 k l0 ([] : List Int) l1 (l1.length : Int) 0) else (some (([] : List Int), bt146.2)))) else (some (([] : List Int), 10))) else (some (([] : List Int), za)))) = some (r1, r2) := h
 clear h
 replace H := Option.bind_eq_some_iff.mp H
 obtain ⟨za, A30, H⟩ := H
 try dsimp only at H
 have A3 := aM A30
 clear A30
 by_cases c4 : za = 0
 rotate_left
 ·rw [if_neg c4] at H
  have ze : (za == 0) = false := beq_eq_false_iff_ne.mpr c4
  have zf : (za != 0) = true := bne_iff_ne.mpr c4
  simp only [Option.some.injEq, Prod.mk.injEq] at H
  obtain ⟨rfl, rfl⟩ := H
  go_enter Try.func71, Try.ntmps71
  go_wp2_with (first | ((with_reducible refine gate_callee (f := 31) rfl ?_); refine goesL_ (some 13) rfl rfl Try.func31 (by kernel_rfl) rfl #[.slice A0 l0.length c0] rfl pA ?_; (with_reducible refine (shape_Check.calls _ _ l0 za _ ?s1 ?s2 A3.out).mono ?_); (case s1 => exact pC HR0.out); (case s2 => exact HC0.out); rintro e w' ⟨rfl, ⟨nd, rfl⟩⟩; refine ⟨_, rfl, ?_⟩))
  go_ret2
  exact ⟨_, pE, pN, qB HB⟩
 rw [if_pos c4] at H
 have ze : (za == 0) = true := beq_iff_eq.mpr c4
 have zf : (za != 0) = false := bne_eq_false_iff_eq.mpr c4
 clear c4
 by_cases c5 : (l1.length : Int) = (l0.length : Int)
 rotate_left
 ·rw [if_neg c5] at H
  have zg : ((l1.length : Int) == (l0.length : Int)) = false := beq_eq_false_iff_ne.mpr c5
  have zh : ((l1.length : Int) != (l0.length : Int)) = true := bne_iff_ne.mpr c5
  have zi : (l1.length == l0.length) = false := by first | simpa using c5 | (simp at c5 ⊢; omega)
  simp only [Option.some.injEq, Prod.mk.injEq] at H
  obtain ⟨rfl, rfl⟩ := H
  go_enter Try.func71, Try.ntmps71
  go_wp2_with (first | ((with_reducible refine gate_callee (f := 31) rfl ?_); refine goesL_ (some 13) rfl rfl Try.func31 (by kernel_rfl) rfl #[.slice A0 l0.length c0] rfl pA ?_; (with_reducible refine (shape_Check.calls _ _ l0 za _ ?s1 ?s2 A3.out).mono ?_); (case s1 => exact pC HR0.out); (case s2 => exact HC0.out); rintro e w' ⟨rfl, ⟨nd, rfl⟩⟩; refine ⟨_, rfl, ?_⟩))
  go_ret2
  exact ⟨_, pE, pN, qB HB⟩
 rw [if_pos c5] at H
 have zg : ((l1.length : Int) == (l0.length : Int)) = true := beq_iff_eq.mpr c5
 have zh : ((l1.length : Int) != (l0.length : Int)) = false := bne_eq_false_iff_eq.mpr c5
 have zi : (l1.length == l0.length) = true := by first | simpa using c5 | (simp at c5 ⊢; omega)
 clear c5
 replace H := Option.bind_eq_some_iff.mp H
 obtain ⟨⟨zj, zb⟩, A60, H⟩ := H
 try dsimp only at H
 have A6 := aM A60
 clear A60
 by_cases c7 : zb = 0
 rotate_left
 ·rw [if_neg c7] at H
  have zk : (zb == 0) = false := beq_eq_false_iff_ne.mpr c7
  have zl : (zb != 0) = true := bne_iff_ne.mpr c7
  simp only [Option.some.injEq, Prod.mk.injEq] at H
  obtain ⟨rfl, rfl⟩ := H
  go_enter Try.func71, Try.ntmps71
  go_wp2_with (first | ((with_reducible refine gate_callee (f := 31) rfl ?_); refine goesL_ (some 13) rfl rfl Try.func31 (by kernel_rfl) rfl #[.slice A0 l0.length c0] rfl pA ?_; (with_reducible refine (shape_Check.calls _ _ l0 za _ ?s1 ?s2 A3.out).mono ?_); (case s1 => exact pC HR0.out); (case s2 => exact HC0.out); rintro e w' ⟨rfl, ⟨nd, rfl⟩⟩; refine ⟨_, rfl, ?_⟩) | ((with_reducible refine gate_callee (f := 89) rfl ?_); refine goesL_ (some 26) rfl rfl Try.func89 (by kernel_rfl) rfl #[.int .i64 (l0.length : Int), .slice A1 l1.length c1] rfl pA ?_; (with_reducible refine (shape_Axes.calls k (l0.length : Int) _ _ l1 zj zb _ ?s1 ?s2 A6.out).mono ?_); (case s1 => exact pC HR1.out); (case s2 => exact HC1.out); rintro e w16 ⟨v148, rfl, ho0, hb⟩; refine ⟨_, rfl, ?_⟩; have HO149 := aM (Kd.R_lower ho0 (below_size (qB HB))); replace HB := bS (qB HB) hb; (try clear hb); (try clear hk); (try clear hi); (try clear ho0)))
  go_ret2
  exact ⟨_, pE, pN, qB HB⟩
 rw [if_pos c7] at H
 have zk : (zb == 0) = true := beq_iff_eq.mpr c7
 have zl : (zb != 0) = false := bne_eq_false_iff_eq.mpr c7
 clear c7
 have H' := aM H
 clear H
 go_enter Try.func71, Try.ntmps71
 go_wp2_with (first | ((with_reducible refine gate_callee (f := 31) rfl ?_); refine goesL_ (some 13) rfl rfl Try.func31 (by kernel_rfl) rfl #[.slice A0 l0.length c0] rfl pA ?_; (with_reducible refine (shape_Check.calls _ _ l0 za _ ?s1 ?s2 A3.out).mono ?_); (case s1 => exact pC HR0.out); (case s2 => exact HC0.out); rintro e w' ⟨rfl, ⟨nd, rfl⟩⟩; refine ⟨_, rfl, ?_⟩) | ((with_reducible refine gate_callee (f := 89) rfl ?_); refine goesL_ (some 26) rfl rfl Try.func89 (by kernel_rfl) rfl #[.int .i64 (l0.length : Int), .slice A1 l1.length c1] rfl pA ?_; (with_reducible refine (shape_Axes.calls k (l0.length : Int) _ _ l1 zj zb _ ?s1 ?s2 A6.out).mono ?_); (case s1 => exact pC HR1.out); (case s2 => exact HC1.out); rintro e w8 ⟨v148, rfl, ho0, hb⟩; refine ⟨_, rfl, ?_⟩; have HO149 := aM (Kd.R_lower ho0 (below_size (qB HB))); replace HB := bS (qB HB) hb; (try clear hb); (try clear hk); (try clear hi); (try clear ho0)))
 go_loopg [9, 34] k (fun kq v9 v34 w' => ∃ (x9_1 : List Int) (x34_1 : Int), v34 = .int .i64 x34_1 ∧ Aside0 (shape_Perm.l0 kq l0 x9_1 l1 (l1.length : Int) x34_1 = some (r1, r2)) ∧ Aside0 (kq ≤ k) ∧ Aside0 (Kd.R (Kd.int .i64) 3 w' w.heap.size (fun _ => True) v9 x9_1) ∧ Aside0 (Below w.heap.size w w'))
 case atStart => exact ⟨(([] : List Int)), (0), (pF), H', ⟨Nat.le_refl _⟩, ⟨pN⟩, ⟨qB HB⟩⟩
 case round =>
  clear H'
  try clear c1
  try clear ze
  try clear zf
  try clear zg
  try clear zh
  try clear zi
  try clear zk
  try clear zl
  obtain ⟨x9_1, x34_1, rfl, HA, HK1, zd, HB⟩ := hrel
  cases gk with
  | zero => exact absurd HA.out (by simp [shape_Perm.l0])
  | succ k1 =>
   have H := HA.out
   clear HA
   simp only [shape_Perm.l0] at H
   by_cases c9 : x34_1 < (l1.length : Int)
   rotate_left
   ·rw [if_neg c9] at H
    have c9b0 : decide (x34_1 < (l1.length : Int)) = false := decide_eq_false c9
    clear c9
    simp only [Option.some.injEq, Prod.mk.injEq] at H
    obtain ⟨rfl, rfl⟩ := H
    go_wp2
    go_ret2
    exact ⟨_, pE, pR zd.out, qB HB⟩
   rw [if_pos c9] at H
   have c9b0 : decide (x34_1 < (l1.length : Int)) = true := decide_eq_true c9
   clear c9
   by_cases c10 : 0 ≤ x34_1
   rotate_left
   ·rw [if_neg c10] at H
    exact absurd H (by simp)
   rw [if_pos c10] at H
   have c10b0 : decide (0 ≤ x34_1) = true := decide_eq_true c10
   clear c10
   by_cases c11 : x34_1 < (l1.length : Int)
   rotate_left
   ·rw [if_neg c11] at H
    exact absurd H (by simp)
   rw [if_pos c11] at H
   have c11b0 : decide (x34_1 < (l1.length : Int)) = true := decide_eq_true c11
   clear c11
   by_cases c12 : 0 ≤ (rd l1 x34_1)
   rotate_left
   ·rw [if_neg c12] at H
    exact absurd H (by simp)
   rw [if_pos c12] at H
   have c12b0 : decide (0 ≤ (rd l1 x34_1)) = true := decide_eq_true c12
   clear c12
   by_cases c13 : (rd l1 x34_1) < (l0.length : Int)
   rotate_left
   ·rw [if_neg c13] at H
    exact absurd H (by simp)
   rw [if_pos c13] at H
   have c13b0 : decide ((rd l1 x34_1) < (l0.length : Int)) = true := decide_eq_true c13
   clear c13
   by_cases c14 : x9_1.length < 17592186044416
   rotate_left
   ·rw [if_neg c14] at H
    exact absurd H (by simp)
   rw [if_pos c14] at H
   have LMc14 := aM c14
   clear c14
   obtain ⟨zm, zc⟩ : ∃ y_ : List Int, y_ = (x9_1 ++ [rd l0 (rd l1 x34_1)]) := ⟨_, rfl⟩
   replace H : (shape_Perm.l0 k1 l0 zm l1 (l1.length : Int) (wrap64 (x34_1 + 1))) = some (r1, r2) := pH zc H
   have Ny152 := aM zc
   clear zc
   have H' := aM H
   clear H
   have p150 : 0 ≤ (x34_1 : Int) := of_decide_eq_true pD
   have q150 : x34_1 < (l1.length : Int) := of_decide_eq_true pD
   obtain ⟨ad150, e150, hx150_0⟩ := Kd.at_int HR1.out x34_1 p150 q150
   cases e150
   replace hx150_0 := (HB.out.cell (World.block_lt_of_cell? w _ hx150_0)).trans hx150_0
   replace p150 := eq_true p150
   replace q150 := eq_true q150
   have p151 : 0 ≤ ((rd l1 x34_1) : Int) := of_decide_eq_true pD
   have q151 : (rd l1 x34_1) < (l0.length : Int) := of_decide_eq_true pD
   obtain ⟨ad151, e151, hx151_0⟩ := Kd.at_int HR0.out (rd l1 x34_1) p151 q151
   cases e151
   replace hx151_0 := (HB.out.cell (World.block_lt_of_cell? w _ hx151_0)).trans hx151_0
   replace p151 := eq_true p151
   replace q151 := eq_true q151
   go_wp2_with (first | ((with_reducible refine gate_builtin (b := .append) (xs := #[.tmp 38, .tmp 43]) rfl ?_); at_builtin; refine Kd.R_append (Kd.int .i64) (w0 := w) w.heap.size rfl (.tmp 38) (.tmp 43) 22 3 (.int .i64 0) 8 rfl Try.underlying22 info3 rfl (by decide) (by omega) u9 x9_1 (rd l0 (rd l1 x34_1)) [.int .i64 (rd l0 (rd l1 x34_1))] (fun _ => True) (fun _ => False) rfl rfl ?aP (fun _ hk => hk.elim) ?aF ?aO ?aB ?aS ?aL ?_; (case aP => exact rfl); (case aB => exact (qB HB)); (case aF => exact (fun _ _ => trivial)); (case aO => exact (pR zd.out)); (case aS => exact (below_size (qB HB))); (case aL => have := LMc14.out; omega); intro v153 w15 ho hb hg hat; rw [← Ny152.out] at ho; replace HB := aM (hb); have HO154 := aM (ho); clear zd; clear ho hb hg hat))
   go_roundg k1
   case measure => have := HK1.out; omega
   case rel => exact ⟨(zm), (wrap64 (x34_1 + 1)), (pF), H', ⟨by have := HK1.out; omega⟩, ⟨pR HO154.out⟩, ⟨qB HB⟩⟩
def view_Permute.l0 : Nat → List Int → List Int → List Int → Int → Int → Int → List Int → List Int → Option (Int × List Int × List Int × Int)
 | 0, _, _, _, _, _, _, _, _ => none
 | k + 1, x6, x8, x26, x27, x28, zn, x156001, zh => if x28 < x27 then (if 0 ≤ x28 then (if x28 < (x26.length : Int) then (if 0 ≤ (rd x26 x28) then (if (rd x26 x28) < (zh.length : Int) then (if x8.length < 17592186044416 then (view_Permute.l0 k x6 (x8 ++ [rd zh (rd x26 x28)]) x26 x27 (wrap64 (x28 + 1)) zn x156001 zh) else (none)) else (none)) else (none)) else (none)) else (none)) else (some (zn, x6, x8, 0))
def view_Permute.f (k : Nat) (a0_0 : Int) (l0_1 : List Int) (l0_2 : List Int) (l1 : List Int) : Option (Int × List Int × List Int × Int) := (view_right.f k a0_0 l0_1 l0_2).bind fun zt => (if zt = true then ((shape_Perm.f k l0_1 l1).bind fun bt158 => (if bt158.2 = 0 then (view_Permute.l0 k bt158.1 ([] : List Int) l1 (l1.length : Int) 0 a0_0 l0_1 l0_2) else (some (0, ([] : List Int), ([] : List Int), bt158.2)))) else (some (0, ([] : List Int), ([] : List Int), 1)))
set_option maxHeartbeats 8000000 in
set_option maxRecDepth 100000 in
theorem view_Permute.calls (k : Nat) (a0_0 : Int) (A0_1 : Option Addr) (c0_1 : Nat) (l0_1 : List Int) (A0_2 : Option Addr) (c0_2 : Nat) (l0_2 : List Int) (A1 : Option Addr) (c1 : Nat) (l1 : List Int) (r1 : Int) (r2 : List Int) (r3 : List Int) (r4 : Int) (w : World) (hr0_1 : Kd.C (Kd.int .i64) w A0_1 l0_1.length l0_1) (hc0_1 : l0_1.length ≤ c0_1) (hr0_2 : Kd.C (Kd.int .i64) w A0_2 l0_2.length l0_2) (hc0_2 : l0_2.length ≤ c0_2) (hr1 : Kd.C (Kd.int .i64) w A1 l1.length l1) (hc1 : l1.length ≤ c1) (h : view_Permute.f k a0_0 l0_1 l0_2 l1 = some (r1, r2, r3, r4)) :
  Calls Try.prog 44 #[.agg #[.int .i64 a0_0, .slice A0_1 l0_1.length c0_1, .slice A0_2 l0_2.length c0_2], .slice A1 l1.length c1] w fun e w' => ∃ v1_ v2_ : Value, e = .returned (.tuple #[.agg #[.int .i64 r1, v1_, v2_], .int .i64 r4]) ∧ Kd.R (Kd.int .i64) 3 w' w.heap.size (fun k_ => some k_ ≠ (v2_ : Value).ownBlock) v1_ r2 ∧ Kd.R (Kd.int .i64) 3 w' w.heap.size (fun k_ => some k_ ≠ (v1_ : Value).ownBlock) v2_ r3 ∧ Below w.heap.size w w' := by
 have hu44 := Try.underlying44
 have zi := aM hr0_1
 have zj := aM hc0_1
 clear hr0_1 hc0_1
 have zo := aM hr0_2
 have zu := aM hc0_2
 clear hr0_2 hc0_2
 have HR1 := aM hr1
 have HC1 := aM hc1
 clear hr1 hc1
 have HB := aM (Below.refl w.heap.size w)
 have H : ((view_right.f k a0_0 l0_1 l0_2).bind fun zt => (if zt = true then ((shape_Perm.f k l0_1 l1).bind fun bt158 => (if bt158.2 = 0 then (view_Permute.l0 k bt158.1 ([] : List Int) l1 (l1.length : Int) 0 a0_0 l0_1 l0_2) else (some (0, ([] : List Int), ([] : List Int), bt158.2)))) else (some (0, ([] : List Int), ([] : List Int), 1)))) = some (r1, r2, r3, r4) := h
 clear h
 replace H := Option.bind_eq_some_iff.mp H
 obtain ⟨zt, A30, H⟩ := H
 try dsimp only at H
 have A3 := aM A30
 clear A30
 by_cases c4 : zt = true
 rotate_left
 ·replace c4 := Bool.eq_false_iff.mpr c4
  subst c4
  rw [if_neg (show ¬ (false = true) by decide)] at H
  simp only [Option.some.injEq, Prod.mk.injEq] at H
  obtain ⟨rfl, rfl, rfl, rfl⟩ := H
  go_enter Try.func44, Try.ntmps44
  go_wp2_with (first | ((with_reducible refine gate_dst (N := 2) rfl ?_); refine box_event ?hg (N := 2) ?hd (cs := #[.int .i64 a0_0, .slice A0_1 l0_1.length c0_1, .slice A0_2 l0_2.length c0_2]) (t := 44) ?hr ?_; (case hd => rfl); (case hg => rfl); (case hr => first | (go_simp; done) | (go_simp; rfl)); intro zp hg w36 hbox hb; have za := aM (hbox); have zk := gE (w := w) hg (qB HB); have zc := zk; replace HB := bS (qB HB) hb; clear hb hbox hg) | ((with_reducible refine gate_dst (N := 4) rfl ?_); refine box_event ?hg (N := 4) ?hd (cs := #[.int .i64 0, .slice none 0 0, .slice none 0 0]) (t := 44) ?hr ?_; (case hd => rfl); (case hg => rfl); (case hr => first | (go_simp; done) | (go_simp; rfl)); intro zg hg w37 hbox hb; have zb := aM (hbox); have zl := gE (w := w) hg (qB1 HB zc); have zf := zl; replace HB := bS (qB1 HB zc) hb; have zd := nL hg za; have ze := nG hg za; replace za := bK za hb; clear hb hbox hg; have hnb38 := zd.out; have hnc38 := ze.out; obtain ⟨hcz39_0, hcz39_1, hcz39_2, hfz39_0, hfz39_1, hfz39_2⟩ := blk3 za.out) | ((with_reducible refine gate_callee (f := 49) rfl ?_); refine goesL_ (some 12) rfl rfl Try.func49 (by kernel_rfl) rfl #[.agg #[.int .i64 a0_0, .slice A0_1 l0_1.length c0_1, .slice A0_2 l0_2.length c0_2]] rfl pA ?_; (with_reducible refine (view_right.calls k a0_0 _ _ l0_1 _ _ l0_2 false _ ?s1 ?s2 ?s3 ?s4 A3.out).mono ?_); (case s1 => exact sC zi HB); (case s2 => exact zj.out); (case s3 => exact sC zo HB); (case s4 => exact zu.out); rintro e w40 ⟨rfl, hb⟩; refine ⟨_, rfl, ?_⟩; replace za := bK za hb; replace zb := bK zb hb; replace HB := bS (qB2 HB zc zf) hb; (try clear hb); (try clear hk); (try clear hi); obtain ⟨hcz41_0, hcz41_1, hcz41_2, hfz41_0, hfz41_1, hfz41_2⟩ := blk3 zb.out))
  refine bodyPost_ret (results_ct rfl _ _ zg 44 #[.int .i64 0, .slice none 0 0, .slice none 0 0] (0, 0) _ rfl (by exact P3 zb) Try.underlying44 rfl (by kernel_rfl)) rfl ?_
  exact ⟨_, _, pE, pN, pN, qB2 HB zc zf⟩
 subst c4
 rw [if_pos rfl] at H
 replace H := Option.bind_eq_some_iff.mp H
 obtain ⟨⟨zq, zm⟩, A50, H⟩ := H
 try dsimp only at H
 have A5 := aM A50
 clear A50
 by_cases c6 : zm = 0
 rotate_left
 ·rw [if_neg c6] at H
  have zy : (zm == 0) = false := beq_eq_false_iff_ne.mpr c6
  have zz : (zm != 0) = true := bne_iff_ne.mpr c6
  simp only [Option.some.injEq, Prod.mk.injEq] at H
  obtain ⟨rfl, rfl, rfl, rfl⟩ := H
  go_enter Try.func44, Try.ntmps44
  go_wp2_with (first | ((with_reducible refine gate_dst (N := 2) rfl ?_); refine box_event ?hg (N := 2) ?hd (cs := #[.int .i64 a0_0, .slice A0_1 l0_1.length c0_1, .slice A0_2 l0_2.length c0_2]) (t := 44) ?hr ?_; (case hd => rfl); (case hg => rfl); (case hr => first | (go_simp; done) | (go_simp; rfl)); intro zp hg w28 hbox hb; have za := aM (hbox); have zk := gE (w := w) hg (qB HB); have zc := zk; replace HB := bS (qB HB) hb; clear hb hbox hg) | ((with_reducible refine gate_dst (N := 4) rfl ?_); refine box_event ?hg (N := 4) ?hd (cs := #[.int .i64 0, .slice none 0 0, .slice none 0 0]) (t := 44) ?hr ?_; (case hd => rfl); (case hg => rfl); (case hr => first | (go_simp; done) | (go_simp; rfl)); intro zg hg w29 hbox hb; have zb := aM (hbox); have zl := gE (w := w) hg (qB1 HB zc); have zf := zl; replace HB := bS (qB1 HB zc) hb; have zd := nL hg za; have ze := nG hg za; replace za := bK za hb; clear hb hbox hg; have hnb30 := zd.out; have hnc30 := ze.out; obtain ⟨hcz31_0, hcz31_1, hcz31_2, hfz31_0, hfz31_1, hfz31_2⟩ := blk3 za.out) | ((with_reducible refine gate_callee (f := 49) rfl ?_); refine goesL_ (some 12) rfl rfl Try.func49 (by kernel_rfl) rfl #[.agg #[.int .i64 a0_0, .slice A0_1 l0_1.length c0_1, .slice A0_2 l0_2.length c0_2]] rfl pA ?_; (with_reducible refine (view_right.calls k a0_0 _ _ l0_1 _ _ l0_2 true _ ?s1 ?s2 ?s3 ?s4 A3.out).mono ?_); (case s1 => exact sC zi HB); (case s2 => exact zj.out); (case s3 => exact sC zo HB); (case s4 => exact zu.out); rintro e w32 ⟨rfl, hb⟩; refine ⟨_, rfl, ?_⟩; replace za := bK za hb; replace zb := bK zb hb; replace HB := bS (qB2 HB zc zf) hb; (try clear hb); (try clear hk); (try clear hi); obtain ⟨hcz33_0, hcz33_1, hcz33_2, hfz33_0, hfz33_1, hfz33_2⟩ := blk3 za.out) | ((with_reducible refine gate_callee (f := 71) rfl ?_); refine goesL_ (some 19) rfl rfl Try.func71 (by kernel_rfl) rfl #[.slice A0_1 l0_1.length c0_1, .slice A1 l1.length c1] rfl pA ?_; (with_reducible refine (shape_Perm.calls k _ _ l0_1 _ _ l1 zq zm _ ?s1 ?s2 ?s3 ?s4 A5.out).mono ?_); (case s1 => exact sC zi HB); (case s2 => exact zj.out); (case s3 => exact sC HR1 HB); (case s4 => exact HC1.out); rintro e w34 ⟨zw, rfl, ho0, hb⟩; refine ⟨_, rfl, ?_⟩; have zx := aM (Kd.R_lower ho0 (below_size (qB2 HB zc zf))); replace za := bK za hb; replace zb := bK zb hb; replace HB := bS (qB2 HB zc zf) hb; (try clear hb); (try clear hk); (try clear hi); (try clear ho0); obtain ⟨hcz35_0, hcz35_1, hcz35_2, hfz35_0, hfz35_1, hfz35_2⟩ := blk3 zb.out))
  refine bodyPost_ret (results_ct rfl _ _ zg 44 #[.int .i64 0, .slice none 0 0, .slice none 0 0] (0, 0) _ rfl (by exact P3 zb) Try.underlying44 rfl (by kernel_rfl)) rfl ?_
  exact ⟨_, _, pE, pN, pN, qB2 HB zc zf⟩
 rw [if_pos c6] at H
 have zy : (zm == 0) = true := beq_iff_eq.mpr c6
 have zz : (zm != 0) = false := bne_eq_false_iff_eq.mpr c6
 clear c6
 have H' := aM H
 clear H
 go_enter Try.func44, Try.ntmps44
 go_wp2_with (first | ((with_reducible refine gate_dst (N := 2) rfl ?_); refine box_event ?hg (N := 2) ?hd (cs := #[.int .i64 a0_0, .slice A0_1 l0_1.length c0_1, .slice A0_2 l0_2.length c0_2]) (t := 44) ?hr ?_; (case hd => rfl); (case hg => rfl); (case hr => first | (go_simp; done) | (go_simp; rfl)); intro zp hg w7 hbox hb; have za := aM (hbox); have zk := gE (w := w) hg (qB HB); have zc := zk; replace HB := bS (qB HB) hb; clear hb hbox hg) | ((with_reducible refine gate_dst (N := 4) rfl ?_); refine box_event ?hg (N := 4) ?hd (cs := #[.int .i64 0, .slice none 0 0, .slice none 0 0]) (t := 44) ?hr ?_; (case hd => rfl); (case hg => rfl); (case hr => first | (go_simp; done) | (go_simp; rfl)); intro zg hg w8 hbox hb; have zb := aM (hbox); have zl := gE (w := w) hg (qB1 HB zc); have zf := zl; replace HB := bS (qB1 HB zc) hb; have zd := nL hg za; have ze := nG hg za; replace za := bK za hb; clear hb hbox hg; have hnb9 := zd.out; have hnc9 := ze.out; obtain ⟨hcz10_0, hcz10_1, hcz10_2, hfz10_0, hfz10_1, hfz10_2⟩ := blk3 za.out) | ((with_reducible refine gate_callee (f := 49) rfl ?_); refine goesL_ (some 12) rfl rfl Try.func49 (by kernel_rfl) rfl #[.agg #[.int .i64 a0_0, .slice A0_1 l0_1.length c0_1, .slice A0_2 l0_2.length c0_2]] rfl pA ?_; (with_reducible refine (view_right.calls k a0_0 _ _ l0_1 _ _ l0_2 true _ ?s1 ?s2 ?s3 ?s4 A3.out).mono ?_); (case s1 => exact sC zi HB); (case s2 => exact zj.out); (case s3 => exact sC zo HB); (case s4 => exact zu.out); rintro e w11 ⟨rfl, hb⟩; refine ⟨_, rfl, ?_⟩; replace za := bK za hb; replace zb := bK zb hb; replace HB := bS (qB2 HB zc zf) hb; (try clear hb); (try clear hk); (try clear hi); obtain ⟨hcz12_0, hcz12_1, hcz12_2, hfz12_0, hfz12_1, hfz12_2⟩ := blk3 za.out) | ((with_reducible refine gate_callee (f := 71) rfl ?_); refine goesL_ (some 19) rfl rfl Try.func71 (by kernel_rfl) rfl #[.slice A0_1 l0_1.length c0_1, .slice A1 l1.length c1] rfl pA ?_; (with_reducible refine (shape_Perm.calls k _ _ l0_1 _ _ l1 zq zm _ ?s1 ?s2 ?s3 ?s4 A5.out).mono ?_); (case s1 => exact sC zi HB); (case s2 => exact zj.out); (case s3 => exact sC HR1 HB); (case s4 => exact HC1.out); rintro e w13 ⟨zw, rfl, ho0, hb⟩; refine ⟨_, rfl, ?_⟩; have zx := aM (Kd.R_lower ho0 (below_size (qB2 HB zc zf))); replace za := bK za hb; replace zb := bK zb hb; replace HB := bS (qB2 HB zc zf) hb; (try clear hb); (try clear hk); (try clear hi); (try clear ho0)))
 go_loopg [8, 28] k (fun kq v8 v28 w' => ∃ (x8_1 : List Int) (x28_1 : Int), v28 = .int .i64 x28_1 ∧ Aside0 (view_Permute.l0 kq zq x8_1 l1 (l1.length : Int) x28_1 a0_0 l0_1 l0_2 = some (r1, r2, r3, r4)) ∧ Aside0 (kq ≤ k) ∧ Aside0 (Kd.R (Kd.int .i64) 3 w' w.heap.size (fun k_ => some k_ ≠ (v8 : Value).ownBlock) zw zq) ∧ Aside0 (Kd.R (Kd.int .i64) 3 w' w.heap.size (fun k_ => some k_ ≠ (zw : Value).ownBlock) v8 x8_1) ∧ Aside0 (w'.heap[zp]? = some (.cells #[.int .i64 a0_0, (.slice A0_1 l0_1.length c0_1), (.slice A0_2 l0_2.length c0_2)] 44 (0, 0))) ∧ Aside0 (w'.heap[zg]? = some (.cells #[.int .i64 0, (.slice none 0 0), (.slice none 0 0)] 44 (0, 0))) ∧ Aside0 (Below w.heap.size w w'))
 case atStart => exact ⟨(([] : List Int)), (0), (pF), H', ⟨Nat.le_refl _⟩, ⟨by (with_reducible repeat (first | apply rA | apply rN | apply rD)); exact Kd.R_mono zx.out (fun _ hk => (by simp [Value.ownBlock]))⟩, ⟨pN⟩, ⟨pK za.out⟩, ⟨pK zb.out⟩, ⟨qB2 HB zc zf⟩⟩
 case round =>
  clear H'
  try clear c1
  try clear c4
  try clear zy
  try clear zz
  try clear hcz10_0 hcz10_1 hcz10_2 hcz12_0 hcz12_1 hcz12_2 hfz10_0 hfz10_1 hfz10_2 hfz12_0 hfz12_1 hfz12_2
  obtain ⟨x8_1, x28_1, rfl, HA, HK1, zr, zs, za, zb, HB⟩ := hrel
  cases gk with
  | zero => exact absurd HA.out (by simp [view_Permute.l0])
  | succ k1 =>
   have H := HA.out
   clear HA
   simp only [view_Permute.l0] at H
   by_cases c14 : x28_1 < (l1.length : Int)
   rotate_left
   ·rw [if_neg c14] at H
    have c14b0 : decide (x28_1 < (l1.length : Int)) = false := decide_eq_false c14
    clear c14
    simp only [Option.some.injEq, Prod.mk.injEq] at H
    obtain ⟨rfl, rfl, rfl, rfl⟩ := H
    have hnb23 := zd.out
    have hnc23 := ze.out
    obtain ⟨hcz24_0, hcz24_1, hcz24_2, hfz24_0, hfz24_1, hfz24_2⟩ := blk3 za.out
    obtain ⟨Ao25, co25, eo25⟩ := Kd.R_slice zs.out
    subst eo25
    obtain ⟨Ao26, co26, eo26⟩ := Kd.R_slice zr.out
    subst eo26
    obtain ⟨hcz27_0, hcz27_1, hcz27_2, hfz27_0, hfz27_1, hfz27_2⟩ := blk3 zb.out
    go_wp2
    refine bodyPost_ret (results_ct rfl _ _ zg 44 #[.int .i64 a0_0, .slice Ao26 zq.length co26, .slice Ao25 x8_1.length co25] (0, 0) _ rfl (by exact P3 zb) Try.underlying44 rfl (by kernel_rfl)) rfl ?_
    exact ⟨_, _, pE, by (with_reducible repeat (first | apply rA | apply rN | apply rD)); exact F3 zr zb (fun _ hk => hk.1), by (with_reducible repeat (first | apply rA | apply rN | apply rD)); exact F3 zs zb (fun _ hk => hk.1), qB2 HB zc zf⟩
   rw [if_pos c14] at H
   have c14b0 : decide (x28_1 < (l1.length : Int)) = true := decide_eq_true c14
   clear c14
   by_cases c15 : 0 ≤ x28_1
   rotate_left
   ·rw [if_neg c15] at H
    exact absurd H (by simp)
   rw [if_pos c15] at H
   have c15b0 : decide (0 ≤ x28_1) = true := decide_eq_true c15
   clear c15
   by_cases c16 : x28_1 < (l1.length : Int)
   rotate_left
   ·rw [if_neg c16] at H
    exact absurd H (by simp)
   rw [if_pos c16] at H
   have c16b0 : decide (x28_1 < (l1.length : Int)) = true := decide_eq_true c16
   clear c16
   by_cases c17 : 0 ≤ (rd l1 x28_1)
   rotate_left
   ·rw [if_neg c17] at H
    exact absurd H (by simp)
   rw [if_pos c17] at H
   have c17b0 : decide (0 ≤ (rd l1 x28_1)) = true := decide_eq_true c17
   clear c17
   by_cases c18 : (rd l1 x28_1) < (l0_2.length : Int)
   rotate_left
   ·rw [if_neg c18] at H
    exact absurd H (by simp)
   rw [if_pos c18] at H
   have c18b0 : decide ((rd l1 x28_1) < (l0_2.length : Int)) = true := decide_eq_true c18
   clear c18
   by_cases c19 : x8_1.length < 17592186044416
   rotate_left
   ·rw [if_neg c19] at H
    exact absurd H (by simp)
   rw [if_pos c19] at H
   have LMc19 := aM c19
   clear c19
   obtain ⟨z0, zv⟩ : ∃ y_ : List Int, y_ = (x8_1 ++ [rd l0_2 (rd l1 x28_1)]) := ⟨_, rfl⟩
   replace H : (view_Permute.l0 k1 zq z0 l1 (l1.length : Int) (wrap64 (x28_1 + 1)) a0_0 l0_1 l0_2) = some (r1, r2, r3, r4) := pH zv H
   have Ny164 := aM zv
   clear zv
   have H' := aM H
   clear H
   have p162 : 0 ≤ (x28_1 : Int) := of_decide_eq_true pD
   have q162 : x28_1 < (l1.length : Int) := of_decide_eq_true pD
   obtain ⟨ad162, e162, hx162_0⟩ := Kd.at_int HR1.out x28_1 p162 q162
   cases e162
   replace hx162_0 := (HB.out.cell (World.block_lt_of_cell? w _ hx162_0)).trans hx162_0
   replace p162 := eq_true p162
   replace q162 := eq_true q162
   have hnb20 := zd.out
   have hnc20 := ze.out
   obtain ⟨hcz21_0, hcz21_1, hcz21_2, hfz21_0, hfz21_1, hfz21_2⟩ := blk3 za.out
   have p163 : 0 ≤ ((rd l1 x28_1) : Int) := of_decide_eq_true pD
   have q163 : (rd l1 x28_1) < (l0_2.length : Int) := of_decide_eq_true pD
   obtain ⟨ad163, e163, hx163_0⟩ := Kd.at_int zo.out (rd l1 x28_1) p163 q163
   cases e163
   replace hx163_0 := (HB.out.cell (World.block_lt_of_cell? w _ hx163_0)).trans hx163_0
   replace p163 := eq_true p163
   replace q163 := eq_true q163
   go_wp2_with (first | ((with_reducible refine gate_builtin (b := .append) (xs := #[.tmp 32, .tmp 38]) rfl ?_); at_builtin; refine Kd.R_append (Kd.int .i64) (w0 := w) w.heap.size rfl (.tmp 32) (.tmp 38) 22 3 (.int .i64 0) 8 rfl Try.underlying22 info3 rfl (by decide) (by omega) u8 x8_1 (rd l0_2 (rd l1 x28_1)) [.int .i64 (rd l0_2 (rd l1 x28_1))] (fun k_ => some k_ ≠ (zw : Value).ownBlock) (fun _ => False) rfl rfl ?aP (fun _ hk => hk.elim) ?aF ?aO ?aB ?aS ?aL ?_; (case aP => exact rfl); (case aB => exact (qB2 HB zc zf)); (case aF => exact (fun k_ hk => Kd.fresh' (Kd.R_lt (pR zr.out)) k_ hk)); (case aO => exact (pR zs.out)); (case aS => exact (below_size (qB2 HB zc zf))); (case aL => have := LMc19.out; omega); intro v165 w22 ho hb hg hat; rw [← Ny164.out] at ho; replace zr := aM (Kd.R_after (ok := (fun _ => True)) (by (with_reducible repeat (first | apply rA | apply rN | apply rD)); exact Kd.R_mono zr.out (fun _ hk => ⟨trivial, hk⟩)) hg hat); replace za := aM (blk_grown (g := zp) (pK za.out) hg (Kd.R_ne zs.out za.out (by decide))); replace zb := aM (blk_grown (g := zg) (pK zb.out) hg (Kd.R_ne zs.out zb.out (by decide))); replace HB := aM (hb); have HO166 := aM (ho); clear zs; clear ho hb hg hat))
   go_roundg k1
   case measure => have := HK1.out; omega
   case rel => exact ⟨(z0), (wrap64 (x28_1 + 1)), (pF), H', ⟨by have := HK1.out; omega⟩, ⟨by (with_reducible repeat (first | apply rA | apply rN | apply rD)); exact Kd.R_mono zr.out (fun _ hk => hk.2)⟩, ⟨pR HO166.out⟩, ⟨pK za.out⟩, ⟨pK zb.out⟩, ⟨qB2 HB zc zf⟩⟩
def shape_Count.l0 : Nat → Int → List Int → Int → Int → Option (Int)
 | 0, _, _, _, _ => none
 | k + 1, x3, x9, x10, x11 => if x11 < x10 then (if 0 ≤ x11 then (if x11 < (x9.length : Int) then (shape_Count.l0 k (wrap64 (x3 * (rd x9 x11))) x9 x10 (wrap64 (x11 + 1))) else (none)) else (none)) else (some x3)
def shape_Count.f (k : Nat) (l0 : List Int) : Option (Int) := (shape_Check.f l0).bind fun za => (if za = 0 then (shape_Count.l0 k 1 l0 (l0.length : Int) 0) else (some 0))
set_option maxHeartbeats 8000000 in
set_option maxRecDepth 100000 in
theorem shape_Count.calls (k : Nat) (A0 : Option Addr) (c0 : Nat) (l0 : List Int) (r : Int) (w : World) (hr0 : Kd.C (Kd.int .i64) w A0 l0.length l0) (hc0 : l0.length ≤ c0) (h : shape_Count.f k l0 = some r) :
  Calls Try.prog 67 #[.slice A0 l0.length c0] w fun e w' => e = .returned (.int .i64 r) ∧ Drawn0 w w' := by
 have HR0 := aM hr0
 have HC0 := aM hc0
 clear hr0 hc0
 have H : ((shape_Check.f l0).bind fun za => (if za = 0 then (shape_Count.l0 k 1 l0 (l0.length : Int) 0) else (some 0))) = some r := h
 clear h
 replace H := Option.bind_eq_some_iff.mp H
 obtain ⟨za, A20, H⟩ := H
 try dsimp only at H
 have A2 := aM A20
 clear A20
 by_cases c3 : za = 0
 rotate_left
 ·rw [if_neg c3] at H
  have zb : (za == 0) = false := beq_eq_false_iff_ne.mpr c3
  have zc : (za != 0) = true := bne_iff_ne.mpr c3
  obtain rfl := Option.some.inj H
  go_enter Try.func67, Try.ntmps67
  go_wp2_with (first | ((with_reducible refine gate_callee (f := 31) rfl ?_); refine goesL_ (some 7) rfl rfl Try.func31 (by kernel_rfl) rfl #[.slice A0 l0.length c0] rfl pA ?_; (with_reducible refine (shape_Check.calls _ _ l0 za _ ?s1 ?s2 A2.out).mono ?_); (case s1 => exact pC HR0.out); (case s2 => exact HC0.out); rintro e w' ⟨rfl, ⟨nd, rfl⟩⟩; refine ⟨_, rfl, ?_⟩))
  go_ret
  exact ⟨pF, by repeat (first | exact Drawn0.refl _ | apply Drawn0.step)⟩
 rw [if_pos c3] at H
 have zb : (za == 0) = true := beq_iff_eq.mpr c3
 have zc : (za != 0) = false := bne_eq_false_iff_eq.mpr c3
 clear c3
 have H' := aM H
 clear H
 go_enter Try.func67, Try.ntmps67
 go_wp2_with (first | ((with_reducible refine gate_callee (f := 31) rfl ?_); refine goesL_ (some 7) rfl rfl Try.func31 (by kernel_rfl) rfl #[.slice A0 l0.length c0] rfl pA ?_; (with_reducible refine (shape_Check.calls _ _ l0 za _ ?s1 ?s2 A2.out).mono ?_); (case s1 => exact pC HR0.out); (case s2 => exact HC0.out); rintro e w' ⟨rfl, ⟨nd, rfl⟩⟩; refine ⟨_, rfl, ?_⟩))
 go_loopg [3, 11] k (fun kq v3 v11 w' => ∃ (x3_1 : Int) (x11_1 : Int), v3 = .int .i64 x3_1 ∧ v11 = .int .i64 x11_1 ∧ Aside0 (shape_Count.l0 kq x3_1 l0 (l0.length : Int) x11_1 = some r) ∧ Aside0 (kq ≤ k) ∧ Drawn0 w w')
 case atStart => exact ⟨(1), (0), (pF), (pF), H', ⟨Nat.le_refl _⟩, by repeat (first | exact Drawn0.refl _ | apply Drawn0.step)⟩
 case round =>
  clear H'
  try clear zb
  try clear zc
  obtain ⟨x3_1, x11_1, rfl, rfl, HA, HK1, ⟨m1, rfl⟩⟩ := hrel
  cases gk with
  | zero => exact absurd HA.out (by simp [shape_Count.l0])
  | succ k1 =>
   have H := HA.out
   clear HA
   simp only [shape_Count.l0] at H
   by_cases c4 : x11_1 < (l0.length : Int)
   rotate_left
   ·rw [if_neg c4] at H
    have c4b0 : decide (x11_1 < (l0.length : Int)) = false := decide_eq_false c4
    clear c4
    obtain rfl := Option.some.inj H
    go_wp2
    go_ret
    exact ⟨pF, by repeat (first | exact Drawn0.refl _ | apply Drawn0.step)⟩
   rw [if_pos c4] at H
   have c4b0 : decide (x11_1 < (l0.length : Int)) = true := decide_eq_true c4
   clear c4
   by_cases c5 : 0 ≤ x11_1
   rotate_left
   ·rw [if_neg c5] at H
    exact absurd H (by simp)
   rw [if_pos c5] at H
   have c5b0 : decide (0 ≤ x11_1) = true := decide_eq_true c5
   clear c5
   by_cases c6 : x11_1 < (l0.length : Int)
   rotate_left
   ·rw [if_neg c6] at H
    exact absurd H (by simp)
   rw [if_pos c6] at H
   have c6b0 : decide (x11_1 < (l0.length : Int)) = true := decide_eq_true c6
   clear c6
   have H' := aM H
   clear H
   have p118 : 0 ≤ (x11_1 : Int) := of_decide_eq_true pD
   have q118 : x11_1 < (l0.length : Int) := of_decide_eq_true pD
   obtain ⟨ad118, e118, hx118_0⟩ := Kd.at_int HR0.out x11_1 p118 q118
   cases e118
   replace p118 := eq_true p118
   replace q118 := eq_true q118
   go_wp2
   go_roundg k1
   case measure => have := HK1.out; omega
   case rel => exact ⟨(wrap64 (x3_1 * (rd l0 x11_1))), (wrap64 (x11_1 + 1)), (pF), (pF), H', ⟨by have := HK1.out; omega⟩, by repeat (first | exact Drawn0.refl _ | apply Drawn0.step)⟩
def shape_Steps.l0 : Nat → List Int → List Int → Int → Int → Option (List Int)
 | 0, _, _, _, _ => none
 | k + 1, x0, x3, x4, x5 => if x5 ≥ 0 then (if 0 ≤ x5 then (if x5 < (x3.length : Int) then (if x5 < (x0.length : Int) then (shape_Steps.l0 k x0 (x3.set (x5 : Int).toNat x4) (wrap64 (x4 * (rd x0 x5))) (wrap64 (x5 - 1))) else (none)) else (none)) else (none)) else (some x3)
def shape_Steps.f (k : Nat) (l0 : List Int) : Option (List Int) := (shape_Check.f l0).bind fun za => (if za = 0 then (if 0 ≤ (l0.length : Int) then (if ((l0.length : Int) : Int).toNat ≤ 35184372088832 then (shape_Steps.l0 k l0 (List.replicate ((l0.length : Int) : Int).toNat 0) 1 (wrap64 ((l0.length : Int) - 1))) else (none)) else (none)) else (some ([] : List Int)))
set_option maxHeartbeats 8000000 in
set_option maxRecDepth 100000 in
theorem shape_Steps.calls (k : Nat) (A0 : Option Addr) (c0 : Nat) (l0 : List Int) (r : List Int) (w : World) (hr0 : Kd.C (Kd.int .i64) w A0 l0.length l0) (hc0 : l0.length ≤ c0) (h : shape_Steps.f k l0 = some r) :
  Calls Try.prog 62 #[.slice A0 l0.length c0] w fun e w' => ∃ v0_ : Value, e = .returned (v0_) ∧ Kd.R (Kd.int .i64) 3 w' w.heap.size (fun _ => True) v0_ r ∧ Below w.heap.size w w' := by
 have HR0 := aM hr0
 have HC0 := aM hc0
 clear hr0 hc0
 have HB := aM (Below.refl w.heap.size w)
 have H : ((shape_Check.f l0).bind fun za => (if za = 0 then (if 0 ≤ (l0.length : Int) then (if ((l0.length : Int) : Int).toNat ≤ 35184372088832 then (shape_Steps.l0 k l0 (List.replicate ((l0.length : Int) : Int).toNat 0) 1 (wrap64 ((l0.length : Int) - 1))) else (none)) else (none)) else (some ([] : List Int)))) = some r := h
 clear h
 replace H := Option.bind_eq_some_iff.mp H
 obtain ⟨za, A20, H⟩ := H
 try dsimp only at H
 have A2 := aM A20
 clear A20
 by_cases c3 : za = 0
 rotate_left
 ·rw [if_neg c3] at H
  have zg : (za == 0) = false := beq_eq_false_iff_ne.mpr c3
  have zh : (za != 0) = true := bne_iff_ne.mpr c3
  obtain rfl := Option.some.inj H
  go_enter Try.func62, Try.ntmps62
  go_wp2_with (first | ((with_reducible refine gate_callee (f := 31) rfl ?_); refine goesL_ (some 7) rfl rfl Try.func31 (by kernel_rfl) rfl #[.slice A0 l0.length c0] rfl pA ?_; (with_reducible refine (shape_Check.calls _ _ l0 za _ ?s1 ?s2 A2.out).mono ?_); (case s1 => exact pC HR0.out); (case s2 => exact HC0.out); rintro e w' ⟨rfl, ⟨nd, rfl⟩⟩; refine ⟨_, rfl, ?_⟩))
  go_ret
  exact ⟨_, pE, pN, qB HB⟩
 rw [if_pos c3] at H
 have zg : (za == 0) = true := beq_iff_eq.mpr c3
 have zh : (za != 0) = false := bne_eq_false_iff_eq.mpr c3
 clear c3
 by_cases c4 : 0 ≤ (l0.length : Int)
 rotate_left
 ·rw [if_neg c4] at H
  exact absurd H (by simp)
 rw [if_pos c4] at H
 have c4b0 := eq_true c4
 have c4b1 : decide (0 ≤ (l0.length : Int)) = true := decide_eq_true c4
 clear c4
 by_cases c5 : ((l0.length : Int) : Int).toNat ≤ 35184372088832
 rotate_left
 ·rw [if_neg c5] at H
  exact absurd H (by simp)
 rw [if_pos c5] at H
 have c5b0 := eq_true c5
 have c5b1 : decide (((l0.length : Int) : Int).toNat ≤ 35184372088832) = true := decide_eq_true c5
 clear c5
 obtain ⟨zi, zc⟩ : ∃ y_ : List Int, y_ = (List.replicate ((l0.length : Int) : Int).toNat 0) := ⟨_, rfl⟩
 replace H : (shape_Steps.l0 k l0 zi 1 (wrap64 ((l0.length : Int) - 1))) = some r := pH zc H
 have ze := aM zc
 clear zc
 have H' := aM H
 clear H
 go_enter Try.func62, Try.ntmps62
 go_wp2_with (first | ((with_reducible refine gate_callee (f := 31) rfl ?_); refine goesL_ (some 7) rfl rfl Try.func31 (by kernel_rfl) rfl #[.slice A0 l0.length c0] rfl pA ?_; (with_reducible refine (shape_Check.calls _ _ l0 za _ ?s1 ?s2 A2.out).mono ?_); (case s1 => exact pC HR0.out); (case s2 => exact HC0.out); rintro e w' ⟨rfl, ⟨nd, rfl⟩⟩; refine ⟨_, rfl, ?_⟩) | ((with_reducible refine gate_dst (N := 11) rfl ?_); refine Kd.R_make (Kd.int .i64) _ 3 rfl (N := 11) rfl 22 _ _ rfl (l0.length : Int) rfl rfl Try.underlying22 (.int .i64 0) 8 info3 rfl (by decide) (by omega) 0 (ok := fun _ => True) (okp := fun _ => True) rfl (fun _ hk => hk) trivial (of_decide_eq_true pD) (Nat.le_trans (Nat.mul_le_mul_right _ (of_decide_eq_true pD : (l0.length : Int).toNat ≤ 35184372088832)) (by omega)) (Below.refl _ _) (Nat.le_refl _) ?_; intro v113 w6 ho7 hb hg_ hnew_; clear hg_ hnew_; (first | rw [← ze.out] at ho7 | (simp only [Int.reduceToNat] at ho7; rw [← ze.out] at ho7)); have HO114 := aM (Kd.R_lower ho7 (below_size (qB HB))); replace HB := bS (qB HB) hb; clear hb ho7))
 go_loopg [4, 5] k (fun kq v4 v5 w' => ∃ (x3_1 : List Int) (x4_1 : Int) (x5_1 : Int), v4 = .int .i64 x4_1 ∧ v5 = .int .i64 x5_1 ∧ Aside0 (shape_Steps.l0 kq l0 x3_1 x4_1 x5_1 = some r) ∧ Aside0 (kq ≤ k) ∧ Aside0 (Kd.R (Kd.int .i64) 3 w' w.heap.size (fun _ => True) v113 x3_1) ∧ Aside0 (Below w.heap.size w w'))
 case atStart => exact ⟨(zi), (1), (wrap64 ((l0.length : Int) - 1)), (pF), (pF), H', ⟨Nat.le_refl _⟩, ⟨pR HO114.out⟩, ⟨qB HB⟩⟩
 case round =>
  clear H'
  try clear zg
  try clear zh
  try clear c4b0
  try clear c4b1
  try clear c5b0
  try clear c5b1
  obtain ⟨x3_1, x4_1, x5_1, rfl, rfl, HA, HK1, zb, HB⟩ := hrel
  cases gk with
  | zero => exact absurd HA.out (by simp [shape_Steps.l0])
  | succ k1 =>
   have H := HA.out
   clear HA
   simp only [shape_Steps.l0] at H
   by_cases c8 : x5_1 ≥ 0
   rotate_left
   ·rw [if_neg c8] at H
    have c8b0 : decide (0 ≤ x5_1) = false := decide_eq_false c8
    clear c8
    obtain rfl := Option.some.inj H
    go_wp2
    go_ret
    exact ⟨_, pE, pR zb.out, qB HB⟩
   rw [if_pos c8] at H
   have c8b0 : decide (0 ≤ x5_1) = true := decide_eq_true c8
   clear c8
   by_cases c9 : 0 ≤ x5_1
   rotate_left
   ·rw [if_neg c9] at H
    exact absurd H (by simp)
   rw [if_pos c9] at H
   have c9b0 : decide (0 ≤ x5_1) = true := decide_eq_true c9
   clear c9
   by_cases c10 : x5_1 < (x3_1.length : Int)
   rotate_left
   ·rw [if_neg c10] at H
    exact absurd H (by simp)
   rw [if_pos c10] at H
   have c10b0 : decide (x5_1 < (x3_1.length : Int)) = true := decide_eq_true c10
   clear c10
   obtain ⟨zf, zd⟩ : ∃ y_ : List Int, y_ = (x3_1.set (x5_1 : Int).toNat x4_1) := ⟨_, rfl⟩
   replace H : (if x5_1 < (l0.length : Int) then (shape_Steps.l0 k1 l0 zf (wrap64 (x4_1 * (rd l0 x5_1))) (wrap64 (x5_1 - 1))) else (none)) = some r := pH zd H
   have Ny115 := aM zd
   clear zd
   by_cases c12 : x5_1 < (l0.length : Int)
   rotate_left
   ·rw [if_neg c12] at H
    exact absurd H (by simp)
   rw [if_pos c12] at H
   have c12b0 : decide (x5_1 < (l0.length : Int)) = true := decide_eq_true c12
   clear c12
   have H' := aM H
   clear H
   have p11 : 0 ≤ (x5_1 : Int) := of_decide_eq_true pD
   have q11 : (x5_1 : Int) < ((x3_1.length : Int) : Int) := of_decide_eq_true pD
   obtain ⟨go11, co11, zj, zk, gl11, cl11, HG11⟩ := Kd.R_form zb.out (by omega)
   (first | cases zj | (injection zj with ea_ en_ ec_; (first | subst ea_ | (injection ea_ with ea_; subst ea_)); subst ec_; clear en_))
   have GB11 := aM zk
   have GG11 := aM HG11
   clear zk gl11 HG11
   obtain ⟨hx11_0, hf11_0⟩ := Kd.R_celln 0 zb.out (x5_1 : Int) p11 q11
   replace p11 := eq_true p11
   replace q11 := eq_true q11
   have HP13 := Kd.R_putg zb.out (x5_1 : Int) x4_1
   go_wp2_with (first | ((with_reducible refine gate_store (t := 3) (p := 22) rfl ?_); refine store_event (t := 3) (p := 22) (v := ?vo_w14) (w1 := (wr.setCell ⟨go11, (x5_1 : Int).toNat, none⟩ (.int .i64 x4_1))) ?hg ?ho ?hn ?hr ?_; (case ho => rfl); (case hg => rfl); (case hn => rfl); (case hr => first | (go_simp; done) | (go_simp; rfl)); intro w14 hw; have hg : wr.grownBy w14 (some go11) := (by rw [hw]; exact HP13.2); have hp_ : Kd.R (Kd.int .i64) 3 w14 w.heap.size (fun _ => True) (.slice (some ⟨go11, 0, none⟩) x3_1.length co11) zf := (by rw [hw, Ny115.out]; exact HP13.1); clear HP13; replace zb := aM (hp_); replace HB := aM ((by rw [hw]; exact below_set (HB.out) GB11.out : Below w.heap.size w w14)); clear hg hw hp_; have p116 : 0 ≤ (x5_1 : Int) := of_decide_eq_true pD; have q116 : x5_1 < (l0.length : Int) := of_decide_eq_true pD; obtain ⟨ad116, e116, hx116_0⟩ := Kd.at_int HR0.out x5_1 p116 q116; cases e116; replace hx116_0 := (HB.out.cell (World.block_lt_of_cell? w _ hx116_0)).trans hx116_0; replace p116 := eq_true p116; replace q116 := eq_true q116))
   go_roundg k1
   case measure => have := HK1.out; omega
   case rel => exact ⟨(zf), (wrap64 (x4_1 * (rd l0 x5_1))), (wrap64 (x5_1 - 1)), (pF), (pF), H', ⟨by have := HK1.out; omega⟩, ⟨pR zb.out⟩, ⟨qB HB⟩⟩
def view_Row.l0 : Nat → Int → Int → Int → List Int → List Int → Option (Bool)
 | 0, _, _, _, _, _ => none
 | k + 1, x3, x4, zf, zb, zd => if x4 ≥ 0 then (if 0 ≤ x4 then (if x4 < (zb.length : Int) then (if (rd zb x4) > 1 then (if x4 < (zd.length : Int) then (if (rd zd x4) = x3 then (view_Row.l0 k (wrap64 (x3 * (rd zb x4))) (wrap64 (x4 - 1)) zf zb zd) else (some false)) else (none)) else (view_Row.l0 k (wrap64 (x3 * (rd zb x4))) (wrap64 (x4 - 1)) zf zb zd)) else (none)) else (none)) else (some true)
def view_Row.f (k : Nat) (a0_0 : Int) (l0_1 : List Int) (l0_2 : List Int) : Option (Bool) := (view_right.f k a0_0 l0_1 l0_2).bind fun zh => (if zh = true then (view_Row.l0 k 1 (wrap64 ((l0_1.length : Int) - 1)) a0_0 l0_1 l0_2) else (some false))
set_option maxHeartbeats 8000000 in
set_option maxRecDepth 100000 in
theorem view_Row.calls (k : Nat) (a0_0 : Int) (A0_1 : Option Addr) (c0_1 : Nat) (l0_1 : List Int) (A0_2 : Option Addr) (c0_2 : Nat) (l0_2 : List Int) (r : Bool) (w : World) (hr0_1 : Kd.C (Kd.int .i64) w A0_1 l0_1.length l0_1) (hc0_1 : l0_1.length ≤ c0_1) (hr0_2 : Kd.C (Kd.int .i64) w A0_2 l0_2.length l0_2) (hc0_2 : l0_2.length ≤ c0_2) (h : view_Row.f k a0_0 l0_1 l0_2 = some r) :
  Calls Try.prog 70 #[.agg #[.int .i64 a0_0, .slice A0_1 l0_1.length c0_1, .slice A0_2 l0_2.length c0_2]] w fun e w' => e = .returned (.bool r) ∧ Below w.heap.size w w' := by
 have hu44 := Try.underlying44
 have ze := aM hr0_1
 have zj := aM hc0_1
 clear hr0_1 hc0_1
 have zg := aM hr0_2
 have zk := aM hc0_2
 clear hr0_2 hc0_2
 have HB := aM (Below.refl w.heap.size w)
 have H : ((view_right.f k a0_0 l0_1 l0_2).bind fun zh => (if zh = true then (view_Row.l0 k 1 (wrap64 ((l0_1.length : Int) - 1)) a0_0 l0_1 l0_2) else (some false))) = some r := h
 clear h
 replace H := Option.bind_eq_some_iff.mp H
 obtain ⟨zh, A20, H⟩ := H
 try dsimp only at H
 have A2 := aM A20
 clear A20
 by_cases c3 : zh = true
 rotate_left
 ·replace c3 := Bool.eq_false_iff.mpr c3
  subst c3
  rw [if_neg (show ¬ (false = true) by decide)] at H
  obtain rfl := Option.some.inj H
  go_enter Try.func70, Try.ntmps70
  go_wp2_with (first | ((with_reducible refine gate_dst (N := 1) rfl ?_); refine box_event ?hg (N := 1) ?hd (cs := #[.int .i64 a0_0, .slice A0_1 l0_1.length c0_1, .slice A0_2 l0_2.length c0_2]) (t := 44) ?hr ?_; (case hd => rfl); (case hg => rfl); (case hr => first | (go_simp; done) | (go_simp; rfl)); intro zl hg w17 hbox hb; have za := aM (hbox); have zi := gE (w := w) hg (qB HB); have zc := zi; replace HB := bS (qB HB) hb; clear hb hbox hg; obtain ⟨hcz18_0, hcz18_1, hcz18_2, hfz18_0, hfz18_1, hfz18_2⟩ := blk3 za.out) | ((with_reducible refine gate_callee (f := 49) rfl ?_); refine goesL_ (some 6) rfl rfl Try.func49 (by kernel_rfl) rfl #[.agg #[.int .i64 a0_0, .slice A0_1 l0_1.length c0_1, .slice A0_2 l0_2.length c0_2]] rfl pA ?_; (with_reducible refine (view_right.calls k a0_0 _ _ l0_1 _ _ l0_2 false _ ?s1 ?s2 ?s3 ?s4 A2.out).mono ?_); (case s1 => exact sC ze HB); (case s2 => exact zj.out); (case s3 => exact sC zg HB); (case s4 => exact zk.out); rintro e w19 ⟨rfl, hb⟩; refine ⟨_, rfl, ?_⟩; replace za := bK za hb; replace HB := bS (qB1 HB zc) hb; (try clear hb); (try clear hk); (try clear hi)))
  go_ret
  exact ⟨pE, qB1 HB zc⟩
 subst c3
 rw [if_pos rfl] at H
 have H' := aM H
 clear H
 go_enter Try.func70, Try.ntmps70
 go_wp2_with (first | ((with_reducible refine gate_dst (N := 1) rfl ?_); refine box_event ?hg (N := 1) ?hd (cs := #[.int .i64 a0_0, .slice A0_1 l0_1.length c0_1, .slice A0_2 l0_2.length c0_2]) (t := 44) ?hr ?_; (case hd => rfl); (case hg => rfl); (case hr => first | (go_simp; done) | (go_simp; rfl)); intro zl hg w4 hbox hb; have za := aM (hbox); have zi := gE (w := w) hg (qB HB); have zc := zi; replace HB := bS (qB HB) hb; clear hb hbox hg; obtain ⟨hcz5_0, hcz5_1, hcz5_2, hfz5_0, hfz5_1, hfz5_2⟩ := blk3 za.out) | ((with_reducible refine gate_callee (f := 49) rfl ?_); refine goesL_ (some 6) rfl rfl Try.func49 (by kernel_rfl) rfl #[.agg #[.int .i64 a0_0, .slice A0_1 l0_1.length c0_1, .slice A0_2 l0_2.length c0_2]] rfl pA ?_; (with_reducible refine (view_right.calls k a0_0 _ _ l0_1 _ _ l0_2 true _ ?s1 ?s2 ?s3 ?s4 A2.out).mono ?_); (case s1 => exact sC ze HB); (case s2 => exact zj.out); (case s3 => exact sC zg HB); (case s4 => exact zk.out); rintro e w6 ⟨rfl, hb⟩; refine ⟨_, rfl, ?_⟩; replace za := bK za hb; replace HB := bS (qB1 HB zc) hb; (try clear hb); (try clear hk); (try clear hi); obtain ⟨hcz7_0, hcz7_1, hcz7_2, hfz7_0, hfz7_1, hfz7_2⟩ := blk3 za.out))
 go_loopg [3, 4] k (fun kq v3 v4 w' => ∃ (x3_1 : Int) (x4_1 : Int), v3 = .int .i64 x3_1 ∧ v4 = .int .i64 x4_1 ∧ Aside0 (view_Row.l0 kq x3_1 x4_1 a0_0 l0_1 l0_2 = some r) ∧ Aside0 (kq ≤ k) ∧ Aside0 (w'.heap[zl]? = some (.cells #[.int .i64 a0_0, (.slice A0_1 l0_1.length c0_1), (.slice A0_2 l0_2.length c0_2)] 44 (0, 0))) ∧ Aside0 (Below w.heap.size w w'))
 case atStart => exact ⟨(1), (wrap64 ((l0_1.length : Int) - 1)), (pF), (pF), H', ⟨Nat.le_refl _⟩, ⟨pK za.out⟩, ⟨qB1 HB zc⟩⟩
 case round =>
  clear H'
  try clear c3
  try clear hcz5_0 hcz5_1 hcz5_2 hcz7_0 hcz7_1 hcz7_2 hfz5_0 hfz5_1 hfz5_2 hfz7_0 hfz7_1 hfz7_2
  obtain ⟨x3_1, x4_1, rfl, rfl, HA, HK1, za, HB⟩ := hrel
  cases gk with
  | zero => exact absurd HA.out (by simp [view_Row.l0])
  | succ k1 =>
   have H := HA.out
   clear HA
   simp only [view_Row.l0] at H
   by_cases c8 : x4_1 ≥ 0
   rotate_left
   ·rw [if_neg c8] at H
    have c8b0 : decide (0 ≤ x4_1) = false := decide_eq_false c8
    clear c8
    obtain rfl := Option.some.inj H
    go_wp2
    go_ret
    exact ⟨pE, qB1 HB zc⟩
   rw [if_pos c8] at H
   have c8b0 : decide (0 ≤ x4_1) = true := decide_eq_true c8
   clear c8
   by_cases c9 : 0 ≤ x4_1
   rotate_left
   ·rw [if_neg c9] at H
    exact absurd H (by simp)
   rw [if_pos c9] at H
   have c9b0 : decide (0 ≤ x4_1) = true := decide_eq_true c9
   clear c9
   by_cases c10 : x4_1 < (l0_1.length : Int)
   rotate_left
   ·rw [if_neg c10] at H
    exact absurd H (by simp)
   rw [if_pos c10] at H
   have c10b0 : decide (x4_1 < (l0_1.length : Int)) = true := decide_eq_true c10
   clear c10
   by_cases c11 : (rd l0_1 x4_1) > 1
   rotate_left
   ·rw [if_neg c11] at H
    have c11b0 : decide (1 < (rd l0_1 x4_1)) = false := decide_eq_false c11
    clear c11
    have H' := aM H
    clear H
    obtain ⟨hcz16_0, hcz16_1, hcz16_2, hfz16_0, hfz16_1, hfz16_2⟩ := blk3 za.out
    have p121 : 0 ≤ (x4_1 : Int) := of_decide_eq_true pD
    have q121 : x4_1 < (l0_1.length : Int) := of_decide_eq_true pD
    obtain ⟨ad121, e121, hx121_0⟩ := Kd.at_int ze.out x4_1 p121 q121
    cases e121
    replace hx121_0 := (HB.out.cell (World.block_lt_of_cell? w _ hx121_0)).trans hx121_0
    replace p121 := eq_true p121
    replace q121 := eq_true q121
    have p124 : 0 ≤ (x4_1 : Int) := of_decide_eq_true pD
    have q124 : x4_1 < (l0_1.length : Int) := of_decide_eq_true pD
    obtain ⟨ad124, e124, hx124_0⟩ := Kd.at_int ze.out x4_1 p124 q124
    obtain rfl : ad121 = ad124 := (by injection e124)
    replace hx124_0 := (HB.out.cell (World.block_lt_of_cell? w _ hx124_0)).trans hx124_0
    replace p124 := eq_true p124
    replace q124 := eq_true q124
    go_wp2
    go_roundg k1
    case measure => have := HK1.out; omega
    case rel => exact ⟨(wrap64 (x3_1 * (rd l0_1 x4_1))), (wrap64 (x4_1 - 1)), (pF), (pF), H', ⟨by have := HK1.out; omega⟩, ⟨pK za.out⟩, ⟨qB1 HB zc⟩⟩
   rw [if_pos c11] at H
   have c11b0 : decide (1 < (rd l0_1 x4_1)) = true := decide_eq_true c11
   clear c11
   by_cases c12 : x4_1 < (l0_2.length : Int)
   rotate_left
   ·rw [if_neg c12] at H
    exact absurd H (by simp)
   rw [if_pos c12] at H
   have c12b0 : decide (x4_1 < (l0_2.length : Int)) = true := decide_eq_true c12
   clear c12
   by_cases c13 : (rd l0_2 x4_1) = x3_1
   rotate_left
   ·rw [if_neg c13] at H
    have c13b0 : ((rd l0_2 x4_1) == x3_1) = false := beq_eq_false_iff_ne.mpr c13
    have c13b1 : ((rd l0_2 x4_1) != x3_1) = true := bne_iff_ne.mpr c13
    obtain rfl := Option.some.inj H
    obtain ⟨hcz15_0, hcz15_1, hcz15_2, hfz15_0, hfz15_1, hfz15_2⟩ := blk3 za.out
    have p121 : 0 ≤ (x4_1 : Int) := of_decide_eq_true pD
    have q121 : x4_1 < (l0_1.length : Int) := of_decide_eq_true pD
    obtain ⟨ad121, e121, hx121_0⟩ := Kd.at_int ze.out x4_1 p121 q121
    cases e121
    replace hx121_0 := (HB.out.cell (World.block_lt_of_cell? w _ hx121_0)).trans hx121_0
    replace p121 := eq_true p121
    replace q121 := eq_true q121
    have p122 : 0 ≤ (x4_1 : Int) := of_decide_eq_true pD
    have q122 : x4_1 < (l0_2.length : Int) := of_decide_eq_true pD
    obtain ⟨ad122, e122, hx122_0⟩ := Kd.at_int zg.out x4_1 p122 q122
    cases e122
    replace hx122_0 := (HB.out.cell (World.block_lt_of_cell? w _ hx122_0)).trans hx122_0
    replace p122 := eq_true p122
    replace q122 := eq_true q122
    go_wp2
    go_ret
    exact ⟨pE, qB1 HB zc⟩
   rw [if_pos c13] at H
   have c13b0 : ((rd l0_2 x4_1) == x3_1) = true := beq_iff_eq.mpr c13
   have c13b1 : ((rd l0_2 x4_1) != x3_1) = false := bne_eq_false_iff_eq.mpr c13
   clear c13
   have H' := aM H
   clear H
   obtain ⟨hcz14_0, hcz14_1, hcz14_2, hfz14_0, hfz14_1, hfz14_2⟩ := blk3 za.out
   have p121 : 0 ≤ (x4_1 : Int) := of_decide_eq_true pD
   have q121 : x4_1 < (l0_1.length : Int) := of_decide_eq_true pD
   obtain ⟨ad121, e121, hx121_0⟩ := Kd.at_int ze.out x4_1 p121 q121
   cases e121
   replace hx121_0 := (HB.out.cell (World.block_lt_of_cell? w _ hx121_0)).trans hx121_0
   replace p121 := eq_true p121
   replace q121 := eq_true q121
   have p122 : 0 ≤ (x4_1 : Int) := of_decide_eq_true pD
   have q122 : x4_1 < (l0_2.length : Int) := of_decide_eq_true pD
   obtain ⟨ad122, e122, hx122_0⟩ := Kd.at_int zg.out x4_1 p122 q122
   cases e122
   replace hx122_0 := (HB.out.cell (World.block_lt_of_cell? w _ hx122_0)).trans hx122_0
   replace p122 := eq_true p122
   replace q122 := eq_true q122
   have p123 : 0 ≤ (x4_1 : Int) := of_decide_eq_true pD
   have q123 : x4_1 < (l0_1.length : Int) := of_decide_eq_true pD
   obtain ⟨ad123, e123, hx123_0⟩ := Kd.at_int ze.out x4_1 p123 q123
   obtain rfl : ad121 = ad123 := (by injection e123)
   replace hx123_0 := (HB.out.cell (World.block_lt_of_cell? w _ hx123_0)).trans hx123_0
   replace p123 := eq_true p123
   replace q123 := eq_true q123
   go_wp2
   go_roundg k1
   case measure => have := HK1.out; omega
   case rel => exact ⟨(wrap64 (x3_1 * (rd l0_1 x4_1))), (wrap64 (x4_1 - 1)), (pF), (pF), H', ⟨by have := HK1.out; omega⟩, ⟨pK za.out⟩, ⟨qB1 HB zc⟩⟩
def view_Reshape.f (k : Nat) (a0_0 : Int) (l0_1 : List Int) (l0_2 : List Int) (l1 : List Int) : Option (Int × List Int × List Int × Int) := (view_right.f k a0_0 l0_1 l0_2).bind fun zu => (if zu = true then ((shape_Check.f l1).bind fun zk => (if zk = 0 then ((shape_Count.f k l1).bind fun zn => ((shape_Count.f k l0_1).bind fun zo => (if zn = zo then ((view_Row.f k a0_0 l0_1 l0_2).bind fun zv => (if zv = true then ((slices_Clone_int_int.f l1).bind fun zs => ((shape_Steps.f k l1).bind fun zt => (some (a0_0, zs, zt, 0)))) else (some (0, ([] : List Int), ([] : List Int), 19)))) else (some (0, ([] : List Int), ([] : List Int), 8))))) else (some (0, ([] : List Int), ([] : List Int), zk)))) else (some (0, ([] : List Int), ([] : List Int), 1)))
def view_Reshape.T10 : Bool × List (List Nat × List Nat) := (true, [([], []), ([0], [0]), ([], []), ([2], [2]), ([], []), ([4, 3], [4]), ([1, 3, 5], [1, 3, 5]), ([6, 5, 0, 1, 2, 3, 4, 5, 6], [6]), ([7, 0, 1, 2, 3, 4, 5, 6, 7], [])])
def view_Reshape.B10 : List Nat := [0, 1, 0, 4, 0, 28, 63, 127, 255]
theorem view_Reshape.tab10 : rtab .any (opsOf Try.f43 10) = view_Reshape.T10 := by kernel_rfl
theorem view_Reshape.bits10 : waitsOk view_Reshape.T10.2 view_Reshape.B10 = true := by kernel_rfl
set_option maxHeartbeats 8000000 in
set_option maxRecDepth 100000 in
theorem view_Reshape.calls (k : Nat) (a0_0 : Int) (A0_1 : Option Addr) (c0_1 : Nat) (l0_1 : List Int) (A0_2 : Option Addr) (c0_2 : Nat) (l0_2 : List Int) (A1 : Option Addr) (c1 : Nat) (l1 : List Int) (r1 : Int) (r2 : List Int) (r3 : List Int) (r4 : Int) (w : World) (hr0_1 : Kd.C (Kd.int .i64) w A0_1 l0_1.length l0_1) (hc0_1 : l0_1.length ≤ c0_1) (hr0_2 : Kd.C (Kd.int .i64) w A0_2 l0_2.length l0_2) (hc0_2 : l0_2.length ≤ c0_2) (hr1 : Kd.C (Kd.int .i64) w A1 l1.length l1) (hc1 : l1.length ≤ c1) (h : view_Reshape.f k a0_0 l0_1 l0_2 l1 = some (r1, r2, r3, r4)) :
  Calls Try.prog 43 #[.agg #[.int .i64 a0_0, .slice A0_1 l0_1.length c0_1, .slice A0_2 l0_2.length c0_2], .slice A1 l1.length c1] w fun e w' => ∃ v1_ v2_ : Value, e = .returned (.tuple #[.agg #[.int .i64 r1, v1_, v2_], .int .i64 r4]) ∧ Kd.R (Kd.int .i64) 3 w' w.heap.size (fun k_ => some k_ ≠ (v2_ : Value).ownBlock) v1_ r2 ∧ Kd.R (Kd.int .i64) 3 w' w.heap.size (fun k_ => some k_ ≠ (v1_ : Value).ownBlock) v2_ r3 ∧ Below w.heap.size w w' := by
 have hu44 := Try.underlying44
 have zi := aM hr0_1
 have zj := aM hc0_1
 clear hr0_1 hc0_1
 have zp := aM hr0_2
 have zq := aM hc0_2
 clear hr0_2 hc0_2
 have HR1 := aM hr1
 have HC1 := aM hc1
 clear hr1 hc1
 have HB := aM (Below.refl w.heap.size w)
 have H : ((view_right.f k a0_0 l0_1 l0_2).bind fun zu => (if zu = true then ((shape_Check.f l1).bind fun zk => (if zk = 0 then ((shape_Count.f k l1).bind fun zn => ((shape_Count.f k l0_1).bind fun zo => (if zn = zo then ((view_Row.f k a0_0 l0_1 l0_2).bind fun zv => (if zv = true then ((slices_Clone_int_int.f l1).bind fun zs => ((shape_Steps.f k l1).bind fun zt => (some (a0_0, zs, zt, 0)))) else (some (0, ([] : List Int), ([] : List Int), 19)))) else (some (0, ([] : List Int), ([] : List Int), 8))))) else (some (0, ([] : List Int), ([] : List Int), zk)))) else (some (0, ([] : List Int), ([] : List Int), 1)))) = some (r1, r2, r3, r4) := h
 clear h
 replace H := Option.bind_eq_some_iff.mp H
 obtain ⟨zu, A30, H⟩ := H
 try dsimp only at H
 have A3 := aM A30
 clear A30
 by_cases c4 : zu = true
 rotate_left
 ·replace c4 := Bool.eq_false_iff.mpr c4
  subst c4
  rw [if_neg (show ¬ (false = true) by decide)] at H
  simp only [Option.some.injEq, Prod.mk.injEq] at H
  obtain ⟨rfl, rfl, rfl, rfl⟩ := H
  go_enter Try.func43, Try.ntmps43
  go_wp2_with (first | ((with_reducible refine gate_dst (N := 2) rfl ?_); refine box_event ?hg (N := 2) ?hd (cs := #[.int .i64 a0_0, .slice A0_1 l0_1.length c0_1, .slice A0_2 l0_2.length c0_2]) (t := 44) ?hr ?_; (case hd => rfl); (case hg => rfl); (case hr => first | (go_simp; done) | (go_simp; rfl)); intro zh hg w52 hbox hb; have za := aM (hbox); have zl := gE (w := w) hg (qB HB); have zd := zl; replace HB := bS (qB HB) hb; clear hb hbox hg) | ((with_reducible refine gate_dst (N := 4) rfl ?_); refine box_event ?hg (N := 4) ?hd (cs := #[.int .i64 0, .slice none 0 0, .slice none 0 0]) (t := 44) ?hr ?_; (case hd => rfl); (case hg => rfl); (case hr => first | (go_simp; done) | (go_simp; rfl)); intro zg hg w53 hbox hb; have zb := aM (hbox); have zm := gE (w := w) hg (qB1 HB zd); have ze := zm; replace HB := bS (qB1 HB zd) hb; have zc := nL hg za; have zf := nG hg za; replace za := bK za hb; clear hb hbox hg; have hnb54 := zc.out; have hnc54 := zf.out; obtain ⟨hcz55_0, hcz55_1, hcz55_2, hfz55_0, hfz55_1, hfz55_2⟩ := blk3 za.out) | ((with_reducible refine gate_callee (f := 49) rfl ?_); refine goesL_ (some 8) rfl rfl Try.func49 (by kernel_rfl) rfl #[.agg #[.int .i64 a0_0, .slice A0_1 l0_1.length c0_1, .slice A0_2 l0_2.length c0_2]] rfl pA ?_; (with_reducible refine (view_right.calls k a0_0 _ _ l0_1 _ _ l0_2 false _ ?s1 ?s2 ?s3 ?s4 A3.out).mono ?_); (case s1 => exact sC zi HB); (case s2 => exact zj.out); (case s3 => exact sC zp HB); (case s4 => exact zq.out); rintro e w56 ⟨rfl, hb⟩; refine ⟨_, rfl, ?_⟩; replace za := bK za hb; replace zb := bK zb hb; replace HB := bS (qB2 HB zd ze) hb; (try clear hb); (try clear hk); (try clear hi); obtain ⟨hcz57_0, hcz57_1, hcz57_2, hfz57_0, hfz57_1, hfz57_2⟩ := blk3 zb.out))
  refine bodyPost_ret (results_ct rfl _ _ zg 44 #[.int .i64 0, .slice none 0 0, .slice none 0 0] (0, 0) _ rfl (by exact P3 zb) Try.underlying44 rfl (by kernel_rfl)) rfl ?_
  exact ⟨_, _, pE, pN, pN, qB2 HB zd ze⟩
 subst c4
 rw [if_pos rfl] at H
 replace H := Option.bind_eq_some_iff.mp H
 obtain ⟨zk, A50, H⟩ := H
 try dsimp only at H
 have A5 := aM A50
 clear A50
 by_cases c6 : zk = 0
 rotate_left
 ·rw [if_neg c6] at H
  have c6b0 : (zk == 0) = false := beq_eq_false_iff_ne.mpr c6
  have c6b1 : (zk != 0) = true := bne_iff_ne.mpr c6
  simp only [Option.some.injEq, Prod.mk.injEq] at H
  obtain ⟨rfl, rfl, rfl, rfl⟩ := H
  go_enter Try.func43, Try.ntmps43
  go_wp2_with (first | ((with_reducible refine gate_dst (N := 2) rfl ?_); refine box_event ?hg (N := 2) ?hd (cs := #[.int .i64 a0_0, .slice A0_1 l0_1.length c0_1, .slice A0_2 l0_2.length c0_2]) (t := 44) ?hr ?_; (case hd => rfl); (case hg => rfl); (case hr => first | (go_simp; done) | (go_simp; rfl)); intro zh hg w46 hbox hb; have za := aM (hbox); have zl := gE (w := w) hg (qB HB); have zd := zl; replace HB := bS (qB HB) hb; clear hb hbox hg) | ((with_reducible refine gate_dst (N := 4) rfl ?_); refine box_event ?hg (N := 4) ?hd (cs := #[.int .i64 0, .slice none 0 0, .slice none 0 0]) (t := 44) ?hr ?_; (case hd => rfl); (case hg => rfl); (case hr => first | (go_simp; done) | (go_simp; rfl)); intro zg hg w47 hbox hb; have zb := aM (hbox); have zm := gE (w := w) hg (qB1 HB zd); have ze := zm; replace HB := bS (qB1 HB zd) hb; have zc := nL hg za; have zf := nG hg za; replace za := bK za hb; clear hb hbox hg; have hnb48 := zc.out; have hnc48 := zf.out; obtain ⟨hcz49_0, hcz49_1, hcz49_2, hfz49_0, hfz49_1, hfz49_2⟩ := blk3 za.out) | ((with_reducible refine gate_callee (f := 49) rfl ?_); refine goesL_ (some 8) rfl rfl Try.func49 (by kernel_rfl) rfl #[.agg #[.int .i64 a0_0, .slice A0_1 l0_1.length c0_1, .slice A0_2 l0_2.length c0_2]] rfl pA ?_; (with_reducible refine (view_right.calls k a0_0 _ _ l0_1 _ _ l0_2 true _ ?s1 ?s2 ?s3 ?s4 A3.out).mono ?_); (case s1 => exact sC zi HB); (case s2 => exact zj.out); (case s3 => exact sC zp HB); (case s4 => exact zq.out); rintro e w50 ⟨rfl, hb⟩; refine ⟨_, rfl, ?_⟩; replace za := bK za hb; replace zb := bK zb hb; replace HB := bS (qB2 HB zd ze) hb; (try clear hb); (try clear hk); (try clear hi)) | ((with_reducible refine gate_callee (f := 31) rfl ?_); refine goesL_ (some 12) rfl rfl Try.func31 (by kernel_rfl) rfl #[.slice A1 l1.length c1] rfl pA ?_; (with_reducible refine (shape_Check.calls _ _ l1 zk _ ?s1 ?s2 A5.out).mono ?_); (case s1 => exact sC HR1 HB); (case s2 => exact HC1.out); rintro e w' ⟨rfl, ⟨nd, rfl⟩⟩; refine ⟨_, rfl, ?_⟩; (try (rw [drewN_self w50]; generalize hq_ : World.drewN w50 _ = w50; have n0_ : Aside0 (w50.heap[zh]? = some (.cells #[.int .i64 a0_0, .slice A0_1 l0_1.length c0_1, .slice A0_2 l0_2.length c0_2] 44 (0, 0))) := ⟨by rw [← hq_]; exact (pK za.out)⟩; have n1_ : Aside0 (w50.heap[zg]? = some (.cells #[.int .i64 0, .slice none 0 0, .slice none 0 0] 44 (0, 0))) := ⟨by rw [← hq_]; exact (pK zb.out)⟩; have n2_ : Aside0 (Below w.heap.size w w50) := ⟨by rw [← hq_]; exact (qB2 HB zd ze)⟩; clear za zb HB hq_; have za := n0_; have zb := n1_; have HB := n2_; clear n0_ n1_ n2_)); obtain ⟨hcz51_0, hcz51_1, hcz51_2, hfz51_0, hfz51_1, hfz51_2⟩ := blk3 zb.out))
  refine bodyPost_ret (results_ct rfl _ _ zg 44 #[.int .i64 0, .slice none 0 0, .slice none 0 0] (0, 0) _ rfl (by exact P3 zb) Try.underlying44 rfl (by kernel_rfl)) rfl ?_
  exact ⟨_, _, pE, pN, pN, qB2 HB zd ze⟩
 rw [if_pos c6] at H
 have c6b0 : (zk == 0) = true := beq_iff_eq.mpr c6
 have c6b1 : (zk != 0) = false := bne_eq_false_iff_eq.mpr c6
 clear c6
 replace H := Option.bind_eq_some_iff.mp H
 obtain ⟨zn, A70, H⟩ := H
 try dsimp only at H
 have A7 := aM A70
 clear A70
 replace H := Option.bind_eq_some_iff.mp H
 obtain ⟨zo, A80, H⟩ := H
 try dsimp only at H
 have A8 := aM A80
 clear A80
 by_cases c9 : zn = zo
 rotate_left
 ·rw [if_neg c9] at H
  have c9b0 : (zn == zo) = false := beq_eq_false_iff_ne.mpr c9
  have c9b1 : (zn != zo) = true := bne_iff_ne.mpr c9
  simp only [Option.some.injEq, Prod.mk.injEq] at H
  obtain ⟨rfl, rfl, rfl, rfl⟩ := H
  go_enter Try.func43, Try.ntmps43
  try go_wp2_with (first | ((with_reducible refine gate_dst (N := 2) rfl ?_); refine box_event ?hg (N := 2) ?hd (cs := #[.int .i64 a0_0, .slice A0_1 l0_1.length c0_1, .slice A0_2 l0_2.length c0_2]) (t := 44) ?hr ?_; (case hd => rfl); (case hg => rfl); (case hr => first | (go_simp; done) | (go_simp; rfl)); intro zh hg w39 hbox hb; have za := aM (hbox); have zl := gE (w := w) hg (qB HB); have zd := zl; replace HB := bS (qB HB) hb; clear hb hbox hg) | ((with_reducible refine gate_dst (N := 4) rfl ?_); refine box_event ?hg (N := 4) ?hd (cs := #[.int .i64 0, .slice none 0 0, .slice none 0 0]) (t := 44) ?hr ?_; (case hd => rfl); (case hg => rfl); (case hr => first | (go_simp; done) | (go_simp; rfl)); intro zg hg w40 hbox hb; have zb := aM (hbox); have zm := gE (w := w) hg (qB1 HB zd); have ze := zm; replace HB := bS (qB1 HB zd) hb; have zc := nL hg za; have zf := nG hg za; replace za := bK za hb; clear hb hbox hg; have hnb41 := zc.out; have hnc41 := zf.out; obtain ⟨hcz42_0, hcz42_1, hcz42_2, hfz42_0, hfz42_1, hfz42_2⟩ := blk3 za.out) | ((with_reducible refine gate_callee (f := 49) rfl ?_); refine goesL_ (some 8) rfl rfl Try.func49 (by kernel_rfl) rfl #[.agg #[.int .i64 a0_0, .slice A0_1 l0_1.length c0_1, .slice A0_2 l0_2.length c0_2]] rfl pA ?_; (with_reducible refine (view_right.calls k a0_0 _ _ l0_1 _ _ l0_2 true _ ?s1 ?s2 ?s3 ?s4 A3.out).mono ?_); (case s1 => exact sC zi HB); (case s2 => exact zj.out); (case s3 => exact sC zp HB); (case s4 => exact zq.out); rintro e w43 ⟨rfl, hb⟩; refine ⟨_, rfl, ?_⟩; replace za := bK za hb; replace zb := bK zb hb; replace HB := bS (qB2 HB zd ze) hb; (try clear hb); (try clear hk); (try clear hi)) | ((with_reducible refine gate_callee (f := 31) rfl ?_); refine goesL_ (some 12) rfl rfl Try.func31 (by kernel_rfl) rfl #[.slice A1 l1.length c1] rfl pA ?_; (with_reducible refine (shape_Check.calls _ _ l1 zk _ ?s1 ?s2 A5.out).mono ?_); (case s1 => exact sC HR1 HB); (case s2 => exact HC1.out); rintro e w' ⟨rfl, ⟨nd, rfl⟩⟩; refine ⟨_, rfl, ?_⟩; (try (rw [drewN_self w43]; generalize hq_ : World.drewN w43 _ = w43; have n0_ : Aside0 (w43.heap[zh]? = some (.cells #[.int .i64 a0_0, .slice A0_1 l0_1.length c0_1, .slice A0_2 l0_2.length c0_2] 44 (0, 0))) := ⟨by rw [← hq_]; exact (pK za.out)⟩; have n1_ : Aside0 (w43.heap[zg]? = some (.cells #[.int .i64 0, .slice none 0 0, .slice none 0 0] 44 (0, 0))) := ⟨by rw [← hq_]; exact (pK zb.out)⟩; have n2_ : Aside0 (Below w.heap.size w w43) := ⟨by rw [← hq_]; exact (qB2 HB zd ze)⟩; clear za zb HB hq_; have za := n0_; have zb := n1_; have HB := n2_; clear n0_ n1_ n2_))))
  replace za := aM (blk_drew za.out)
  replace zb := aM (blk_drew zb.out)
  replace HB := aM (below_drew1 HB.out)
  refine start_ (n := 6) (S := fun w' => w'.cell? ⟨zh, 0, none⟩ = some (.int .i64 a0_0) ∧ w'.cell? ⟨zh, 1, none⟩ = some (.slice A0_1 l0_1.length c0_1) ∧ w'.cell? ⟨zh, 2, none⟩ = some (.slice A0_2 l0_2.length c0_2)) (ds := []) (bm 6 0) (by kernel_rfl) rfl rfl (h3 za) (fun hHeld => ?_)
  generalize w43.drew = w44 at za zb HB hHeld ⊢
  refine pure_ (i := 0) (N := some 17) (v := ?_) (a' := ?_) (bm 6 1) rfl rfl (by kernel_rfl) (fun _ _ _ h => h) (Or.inl ⟨by rfl, ?_⟩) ?_ ?_
  rotate_left
  ·intro w'
   go_simp
   with_reducible rfl
  rotate_left
  ·simp only [Act.put, sP, i64_w, i32_w]
   rfl
  refine pure_ (i := 2) (N := some 19) (v := ?_) (a' := ?_) (bm 6 5) rfl rfl (by kernel_rfl) (fun _ _ _ h => h) (Or.inl ⟨by rfl, ?_⟩) ?_ ?_
  rotate_left
  ·intro w'
   go_simp
   with_reducible rfl
  rotate_left
  ·simp only [Act.put, sP, i64_w, i32_w]
   rfl
  refine take_ (i := 3) (N := some 20) (v := ?_) (a' := ?_) (bm 6 13) rfl rfl (by kernel_rfl) (fun _ _ _ h => h) (Or.inl ⟨by rfl, ?_⟩) hHeld ?_ ?_
  rotate_left
  ·rintro w' ⟨s0, s1, s2⟩
   go_simp
   with_reducible rfl
  rotate_left
  ·simp only [Act.put, sP, i64_w, i32_w]
   rfl
  refine one_ (i := 1) (N := some 18) (bm 6 15) rfl rfl (by kernel_rfl) (by decide) (fun K hK => ?_)
  refine goes_ Try.func67 (by kernel_rfl) rfl #[.slice A1 l1.length c1] (by rfl) rfl rfl pA ?_
  with_reducible refine (shape_Count.calls k _ _ l1 zn _ ?s1 ?s2 A7.out).mono ?_
  (case s1 => exact sC HR1 HB)
  (case s2 => exact HC1.out)
  rintro e w' ⟨rfl, ⟨nd, rfl⟩⟩
  refine ⟨_, rfl, ?_⟩
  refine hK.out _ _ (h3 za) (fun hHeld => ?_)
  clear hK K
  refine norm_ (a' := ?_) ?_ ?_
  rotate_left
  ·show Act.put _ (some 18) _ = _
   simp only [Act.put, sP, i64_w, i32_w]
   rfl
  refine one_ (i := 4) (N := some 21) (bm 6 31) rfl rfl (by kernel_rfl) (by decide) (fun K hK => ?_)
  refine goes_ Try.func67 (by kernel_rfl) rfl #[.slice A0_1 l0_1.length c0_1] (by rfl) rfl rfl pA ?_
  with_reducible refine (shape_Count.calls k _ _ l0_1 zo _ ?s1 ?s2 A8.out).mono ?_
  (case s1 => exact pC (Kd.C_below zi.out (qB2 HB zd ze)))
  (case s2 => exact zj.out)
  rintro e w' ⟨rfl, ⟨nd, rfl⟩⟩
  refine ⟨_, rfl, ?_⟩
  refine hK.out _ _ (h3 za) (fun hHeld => ?_)
  clear hK K
  refine norm_ (a' := ?_) ?_ ?_
  rotate_left
  ·show Act.put _ (some 21) _ = _
   simp only [Act.put, sP, i64_w, i32_w]
   rfl
  refine pure_ (i := 5) (N := some 22) (v := ?_) (a' := ?_) (bm 6 63) rfl rfl (by kernel_rfl) (fun _ _ _ h => h) (Or.inl ⟨by rfl, ?_⟩) ?_ ?_
  rotate_left
  ·intro w'
   go_simp
   with_reducible rfl
  rotate_left
  ·simp only [Act.put, sP, i64_w, i32_w]
   rfl
  refine done_ (by kernel_rfl) ?_
  obtain ⟨hcz45_0, hcz45_1, hcz45_2, hfz45_0, hfz45_1, hfz45_2⟩ := blk3 zb.out
  try go_wp2
  refine bodyPost_ret (results_ct rfl _ _ zg 44 #[.int .i64 0, .slice none 0 0, .slice none 0 0] (0, 0) _ rfl (by exact P3 zb) Try.underlying44 rfl (by kernel_rfl)) rfl ?_
  exact ⟨_, _, pE, pN, pN, qB2 HB zd ze⟩
 rw [if_pos c9] at H
 have c9b0 : (zn == zo) = true := beq_iff_eq.mpr c9
 have c9b1 : (zn != zo) = false := bne_eq_false_iff_eq.mpr c9
 clear c9
 replace H := Option.bind_eq_some_iff.mp H
 obtain ⟨zv, zx, H⟩ := H
 try dsimp only at H
 have A10 := aM zx
 clear zx
 by_cases c11 : zv = true
 rotate_left
 ·replace c11 := Bool.eq_false_iff.mpr c11
  subst c11
  rw [if_neg (show ¬ (false = true) by decide)] at H
  simp only [Option.some.injEq, Prod.mk.injEq] at H
  obtain ⟨rfl, rfl, rfl, rfl⟩ := H
  go_enter Try.func43, Try.ntmps43
  try go_wp2_with (first | ((with_reducible refine gate_dst (N := 2) rfl ?_); refine box_event ?hg (N := 2) ?hd (cs := #[.int .i64 a0_0, .slice A0_1 l0_1.length c0_1, .slice A0_2 l0_2.length c0_2]) (t := 44) ?hr ?_; (case hd => rfl); (case hg => rfl); (case hr => first | (go_simp; done) | (go_simp; rfl)); intro zh hg w30 hbox hb; have za := aM (hbox); have zl := gE (w := w) hg (qB HB); have zd := zl; replace HB := bS (qB HB) hb; clear hb hbox hg) | ((with_reducible refine gate_dst (N := 4) rfl ?_); refine box_event ?hg (N := 4) ?hd (cs := #[.int .i64 0, .slice none 0 0, .slice none 0 0]) (t := 44) ?hr ?_; (case hd => rfl); (case hg => rfl); (case hr => first | (go_simp; done) | (go_simp; rfl)); intro zg hg w31 hbox hb; have zb := aM (hbox); have zm := gE (w := w) hg (qB1 HB zd); have ze := zm; replace HB := bS (qB1 HB zd) hb; have zc := nL hg za; have zf := nG hg za; replace za := bK za hb; clear hb hbox hg; have hnb32 := zc.out; have hnc32 := zf.out; obtain ⟨hcz33_0, hcz33_1, hcz33_2, hfz33_0, hfz33_1, hfz33_2⟩ := blk3 za.out) | ((with_reducible refine gate_callee (f := 49) rfl ?_); refine goesL_ (some 8) rfl rfl Try.func49 (by kernel_rfl) rfl #[.agg #[.int .i64 a0_0, .slice A0_1 l0_1.length c0_1, .slice A0_2 l0_2.length c0_2]] rfl pA ?_; (with_reducible refine (view_right.calls k a0_0 _ _ l0_1 _ _ l0_2 true _ ?s1 ?s2 ?s3 ?s4 A3.out).mono ?_); (case s1 => exact sC zi HB); (case s2 => exact zj.out); (case s3 => exact sC zp HB); (case s4 => exact zq.out); rintro e w34 ⟨rfl, hb⟩; refine ⟨_, rfl, ?_⟩; replace za := bK za hb; replace zb := bK zb hb; replace HB := bS (qB2 HB zd ze) hb; (try clear hb); (try clear hk); (try clear hi)) | ((with_reducible refine gate_callee (f := 31) rfl ?_); refine goesL_ (some 12) rfl rfl Try.func31 (by kernel_rfl) rfl #[.slice A1 l1.length c1] rfl pA ?_; (with_reducible refine (shape_Check.calls _ _ l1 zk _ ?s1 ?s2 A5.out).mono ?_); (case s1 => exact sC HR1 HB); (case s2 => exact HC1.out); rintro e w' ⟨rfl, ⟨nd, rfl⟩⟩; refine ⟨_, rfl, ?_⟩; (try (rw [drewN_self w34]; generalize hq_ : World.drewN w34 _ = w34; have n0_ : Aside0 (w34.heap[zh]? = some (.cells #[.int .i64 a0_0, .slice A0_1 l0_1.length c0_1, .slice A0_2 l0_2.length c0_2] 44 (0, 0))) := ⟨by rw [← hq_]; exact (pK za.out)⟩; have n1_ : Aside0 (w34.heap[zg]? = some (.cells #[.int .i64 0, .slice none 0 0, .slice none 0 0] 44 (0, 0))) := ⟨by rw [← hq_]; exact (pK zb.out)⟩; have n2_ : Aside0 (Below w.heap.size w w34) := ⟨by rw [← hq_]; exact (qB2 HB zd ze)⟩; clear za zb HB hq_; have za := n0_; have zb := n1_; have HB := n2_; clear n0_ n1_ n2_))))
  replace za := aM (blk_drew za.out)
  replace zb := aM (blk_drew zb.out)
  replace HB := aM (below_drew1 HB.out)
  refine start_ (n := 6) (S := fun w' => w'.cell? ⟨zh, 0, none⟩ = some (.int .i64 a0_0) ∧ w'.cell? ⟨zh, 1, none⟩ = some (.slice A0_1 l0_1.length c0_1) ∧ w'.cell? ⟨zh, 2, none⟩ = some (.slice A0_2 l0_2.length c0_2)) (ds := []) (bm 6 0) (by kernel_rfl) rfl rfl (h3 za) (fun hHeld => ?_)
  generalize w34.drew = w35 at za zb HB hHeld ⊢
  refine pure_ (i := 0) (N := some 17) (v := ?_) (a' := ?_) (bm 6 1) rfl rfl (by kernel_rfl) (fun _ _ _ h => h) (Or.inl ⟨by rfl, ?_⟩) ?_ ?_
  rotate_left
  ·intro w'
   go_simp
   with_reducible rfl
  rotate_left
  ·simp only [Act.put, sP, i64_w, i32_w]
   rfl
  refine pure_ (i := 2) (N := some 19) (v := ?_) (a' := ?_) (bm 6 5) rfl rfl (by kernel_rfl) (fun _ _ _ h => h) (Or.inl ⟨by rfl, ?_⟩) ?_ ?_
  rotate_left
  ·intro w'
   go_simp
   with_reducible rfl
  rotate_left
  ·simp only [Act.put, sP, i64_w, i32_w]
   rfl
  refine take_ (i := 3) (N := some 20) (v := ?_) (a' := ?_) (bm 6 13) rfl rfl (by kernel_rfl) (fun _ _ _ h => h) (Or.inl ⟨by rfl, ?_⟩) hHeld ?_ ?_
  rotate_left
  ·rintro w' ⟨s0, s1, s2⟩
   go_simp
   with_reducible rfl
  rotate_left
  ·simp only [Act.put, sP, i64_w, i32_w]
   rfl
  refine one_ (i := 1) (N := some 18) (bm 6 15) rfl rfl (by kernel_rfl) (by decide) (fun K hK => ?_)
  refine goes_ Try.func67 (by kernel_rfl) rfl #[.slice A1 l1.length c1] (by rfl) rfl rfl pA ?_
  with_reducible refine (shape_Count.calls k _ _ l1 zn _ ?s1 ?s2 A7.out).mono ?_
  (case s1 => exact sC HR1 HB)
  (case s2 => exact HC1.out)
  rintro e w' ⟨rfl, ⟨nd, rfl⟩⟩
  refine ⟨_, rfl, ?_⟩
  refine hK.out _ _ (h3 za) (fun hHeld => ?_)
  clear hK K
  refine norm_ (a' := ?_) ?_ ?_
  rotate_left
  ·show Act.put _ (some 18) _ = _
   simp only [Act.put, sP, i64_w, i32_w]
   rfl
  refine one_ (i := 4) (N := some 21) (bm 6 31) rfl rfl (by kernel_rfl) (by decide) (fun K hK => ?_)
  refine goes_ Try.func67 (by kernel_rfl) rfl #[.slice A0_1 l0_1.length c0_1] (by rfl) rfl rfl pA ?_
  with_reducible refine (shape_Count.calls k _ _ l0_1 zo _ ?s1 ?s2 A8.out).mono ?_
  (case s1 => exact pC (Kd.C_below zi.out (qB2 HB zd ze)))
  (case s2 => exact zj.out)
  rintro e w' ⟨rfl, ⟨nd, rfl⟩⟩
  refine ⟨_, rfl, ?_⟩
  refine hK.out _ _ (h3 za) (fun hHeld => ?_)
  clear hK K
  refine norm_ (a' := ?_) ?_ ?_
  rotate_left
  ·show Act.put _ (some 21) _ = _
   simp only [Act.put, sP, i64_w, i32_w]
   rfl
  refine pure_ (i := 5) (N := some 22) (v := ?_) (a' := ?_) (bm 6 63) rfl rfl (by kernel_rfl) (fun _ _ _ h => h) (Or.inl ⟨by rfl, ?_⟩) ?_ ?_
  rotate_left
  ·intro w'
   go_simp
   with_reducible rfl
  rotate_left
  ·simp only [Act.put, sP, i64_w, i32_w]
   rfl
  refine done_ (by kernel_rfl) ?_
  obtain ⟨hcz36_0, hcz36_1, hcz36_2, hfz36_0, hfz36_1, hfz36_2⟩ := blk3 za.out
  try go_wp2_with (first | ((with_reducible refine gate_callee (f := 70) rfl ?_); refine goesL_ (some 25) rfl rfl Try.func70 (by kernel_rfl) rfl #[.agg #[.int .i64 a0_0, .slice A0_1 l0_1.length c0_1, .slice A0_2 l0_2.length c0_2]] rfl pA ?_; (with_reducible refine (view_Row.calls k a0_0 _ _ l0_1 _ _ l0_2 false _ ?s1 ?s2 ?s3 ?s4 A10.out).mono ?_); (case s1 => exact pC (Kd.C_below zi.out (qB2 HB zd ze))); (case s2 => exact zj.out); (case s3 => exact pC (Kd.C_below zp.out (qB2 HB zd ze))); (case s4 => exact zq.out); rintro e w37 ⟨rfl, hb⟩; refine ⟨_, rfl, ?_⟩; replace za := bK za hb; replace zb := bK zb hb; replace HB := bS (qB2 HB zd ze) hb; (try clear hb); (try clear hk); (try clear hi); obtain ⟨hcz38_0, hcz38_1, hcz38_2, hfz38_0, hfz38_1, hfz38_2⟩ := blk3 zb.out))
  refine bodyPost_ret (results_ct rfl _ _ zg 44 #[.int .i64 0, .slice none 0 0, .slice none 0 0] (0, 0) _ rfl (by exact P3 zb) Try.underlying44 rfl (by kernel_rfl)) rfl ?_
  exact ⟨_, _, pE, pN, pN, qB2 HB zd ze⟩
 subst c11
 rw [if_pos rfl] at H
 replace H := Option.bind_eq_some_iff.mp H
 obtain ⟨zs, zy, H⟩ := H
 try dsimp only at H
 have A12 := aM zy
 clear zy
 replace H := Option.bind_eq_some_iff.mp H
 obtain ⟨zt, zz, H⟩ := H
 try dsimp only at H
 have A13 := aM zz
 clear zz
 simp only [Option.some.injEq, Prod.mk.injEq] at H
 obtain ⟨rfl, rfl, rfl, rfl⟩ := H
 go_enter Try.func43, Try.ntmps43
 try go_wp2_with (first | ((with_reducible refine gate_dst (N := 2) rfl ?_); refine box_event ?hg (N := 2) ?hd (cs := #[.int .i64 a0_0, .slice A0_1 l0_1.length c0_1, .slice A0_2 l0_2.length c0_2]) (t := 44) ?hr ?_; (case hd => rfl); (case hg => rfl); (case hr => first | (go_simp; done) | (go_simp; rfl)); intro zh hg w14 hbox hb; have za := aM (hbox); have zl := gE (w := w) hg (qB HB); have zd := zl; replace HB := bS (qB HB) hb; clear hb hbox hg) | ((with_reducible refine gate_dst (N := 4) rfl ?_); refine box_event ?hg (N := 4) ?hd (cs := #[.int .i64 0, .slice none 0 0, .slice none 0 0]) (t := 44) ?hr ?_; (case hd => rfl); (case hg => rfl); (case hr => first | (go_simp; done) | (go_simp; rfl)); intro zg hg w15 hbox hb; have zb := aM (hbox); have zm := gE (w := w) hg (qB1 HB zd); have ze := zm; replace HB := bS (qB1 HB zd) hb; have zc := nL hg za; have zf := nG hg za; replace za := bK za hb; clear hb hbox hg; have hnb16 := zc.out; have hnc16 := zf.out; obtain ⟨hcz17_0, hcz17_1, hcz17_2, hfz17_0, hfz17_1, hfz17_2⟩ := blk3 za.out) | ((with_reducible refine gate_callee (f := 49) rfl ?_); refine goesL_ (some 8) rfl rfl Try.func49 (by kernel_rfl) rfl #[.agg #[.int .i64 a0_0, .slice A0_1 l0_1.length c0_1, .slice A0_2 l0_2.length c0_2]] rfl pA ?_; (with_reducible refine (view_right.calls k a0_0 _ _ l0_1 _ _ l0_2 true _ ?s1 ?s2 ?s3 ?s4 A3.out).mono ?_); (case s1 => exact sC zi HB); (case s2 => exact zj.out); (case s3 => exact sC zp HB); (case s4 => exact zq.out); rintro e w18 ⟨rfl, hb⟩; refine ⟨_, rfl, ?_⟩; replace za := bK za hb; replace zb := bK zb hb; replace HB := bS (qB2 HB zd ze) hb; (try clear hb); (try clear hk); (try clear hi)) | ((with_reducible refine gate_callee (f := 31) rfl ?_); refine goesL_ (some 12) rfl rfl Try.func31 (by kernel_rfl) rfl #[.slice A1 l1.length c1] rfl pA ?_; (with_reducible refine (shape_Check.calls _ _ l1 zk _ ?s1 ?s2 A5.out).mono ?_); (case s1 => exact sC HR1 HB); (case s2 => exact HC1.out); rintro e w' ⟨rfl, ⟨nd, rfl⟩⟩; refine ⟨_, rfl, ?_⟩; (try (rw [drewN_self w18]; generalize hq_ : World.drewN w18 _ = w18; have n0_ : Aside0 (w18.heap[zh]? = some (.cells #[.int .i64 a0_0, .slice A0_1 l0_1.length c0_1, .slice A0_2 l0_2.length c0_2] 44 (0, 0))) := ⟨by rw [← hq_]; exact (pK za.out)⟩; have n1_ : Aside0 (w18.heap[zg]? = some (.cells #[.int .i64 0, .slice none 0 0, .slice none 0 0] 44 (0, 0))) := ⟨by rw [← hq_]; exact (pK zb.out)⟩; have n2_ : Aside0 (Below w.heap.size w w18) := ⟨by rw [← hq_]; exact (qB2 HB zd ze)⟩; clear za zb HB hq_; have za := n0_; have zb := n1_; have HB := n2_; clear n0_ n1_ n2_))))
 replace za := aM (blk_drew za.out)
 replace zb := aM (blk_drew zb.out)
 replace HB := aM (below_drew1 HB.out)
 refine start_ (n := 6) (S := fun w' => w'.cell? ⟨zh, 0, none⟩ = some (.int .i64 a0_0) ∧ w'.cell? ⟨zh, 1, none⟩ = some (.slice A0_1 l0_1.length c0_1) ∧ w'.cell? ⟨zh, 2, none⟩ = some (.slice A0_2 l0_2.length c0_2)) (ds := []) (bm 6 0) (by kernel_rfl) rfl rfl (h3 za) (fun hHeld => ?_)
 generalize w18.drew = w19 at za zb HB hHeld ⊢
 refine pure_ (i := 0) (N := some 17) (v := ?_) (a' := ?_) (bm 6 1) rfl rfl (by kernel_rfl) (fun _ _ _ h => h) (Or.inl ⟨by rfl, ?_⟩) ?_ ?_
 rotate_left
 ·intro w'
  go_simp
  with_reducible rfl
 rotate_left
 ·simp only [Act.put, sP, i64_w, i32_w]
  rfl
 refine pure_ (i := 2) (N := some 19) (v := ?_) (a' := ?_) (bm 6 5) rfl rfl (by kernel_rfl) (fun _ _ _ h => h) (Or.inl ⟨by rfl, ?_⟩) ?_ ?_
 rotate_left
 ·intro w'
  go_simp
  with_reducible rfl
 rotate_left
 ·simp only [Act.put, sP, i64_w, i32_w]
  rfl
 refine take_ (i := 3) (N := some 20) (v := ?_) (a' := ?_) (bm 6 13) rfl rfl (by kernel_rfl) (fun _ _ _ h => h) (Or.inl ⟨by rfl, ?_⟩) hHeld ?_ ?_
 rotate_left
 ·rintro w' ⟨s0, s1, s2⟩
  go_simp
  with_reducible rfl
 rotate_left
 ·simp only [Act.put, sP, i64_w, i32_w]
  rfl
 refine one_ (i := 1) (N := some 18) (bm 6 15) rfl rfl (by kernel_rfl) (by decide) (fun K hK => ?_)
 refine goes_ Try.func67 (by kernel_rfl) rfl #[.slice A1 l1.length c1] (by rfl) rfl rfl pA ?_
 with_reducible refine (shape_Count.calls k _ _ l1 zn _ ?s1 ?s2 A7.out).mono ?_
 (case s1 => exact sC HR1 HB)
 (case s2 => exact HC1.out)
 rintro e w' ⟨rfl, ⟨nd, rfl⟩⟩
 refine ⟨_, rfl, ?_⟩
 refine hK.out _ _ (h3 za) (fun hHeld => ?_)
 clear hK K
 refine norm_ (a' := ?_) ?_ ?_
 rotate_left
 ·show Act.put _ (some 18) _ = _
  simp only [Act.put, sP, i64_w, i32_w]
  rfl
 refine one_ (i := 4) (N := some 21) (bm 6 31) rfl rfl (by kernel_rfl) (by decide) (fun K hK => ?_)
 refine goes_ Try.func67 (by kernel_rfl) rfl #[.slice A0_1 l0_1.length c0_1] (by rfl) rfl rfl pA ?_
 with_reducible refine (shape_Count.calls k _ _ l0_1 zo _ ?s1 ?s2 A8.out).mono ?_
 (case s1 => exact pC (Kd.C_below zi.out (qB2 HB zd ze)))
 (case s2 => exact zj.out)
 rintro e w' ⟨rfl, ⟨nd, rfl⟩⟩
 refine ⟨_, rfl, ?_⟩
 refine hK.out _ _ (h3 za) (fun hHeld => ?_)
 clear hK K
 refine norm_ (a' := ?_) ?_ ?_
 rotate_left
 ·show Act.put _ (some 21) _ = _
  simp only [Act.put, sP, i64_w, i32_w]
  rfl
 refine pure_ (i := 5) (N := some 22) (v := ?_) (a' := ?_) (bm 6 63) rfl rfl (by kernel_rfl) (fun _ _ _ h => h) (Or.inl ⟨by rfl, ?_⟩) ?_ ?_
 rotate_left
 ·intro w'
  go_simp
  with_reducible rfl
 rotate_left
 ·simp only [Act.put, sP, i64_w, i32_w]
  rfl
 refine done_ (by kernel_rfl) ?_
 obtain ⟨hcz20_0, hcz20_1, hcz20_2, hfz20_0, hfz20_1, hfz20_2⟩ := blk3 za.out
 try go_wp2_with (first | ((with_reducible refine gate_callee (f := 70) rfl ?_); refine goesL_ (some 25) rfl rfl Try.func70 (by kernel_rfl) rfl #[.agg #[.int .i64 a0_0, .slice A0_1 l0_1.length c0_1, .slice A0_2 l0_2.length c0_2]] rfl pA ?_; (with_reducible refine (view_Row.calls k a0_0 _ _ l0_1 _ _ l0_2 true _ ?s1 ?s2 ?s3 ?s4 A10.out).mono ?_); (case s1 => exact pC (Kd.C_below zi.out (qB2 HB zd ze))); (case s2 => exact zj.out); (case s3 => exact pC (Kd.C_below zp.out (qB2 HB zd ze))); (case s4 => exact zq.out); rintro e w21 ⟨rfl, hb⟩; refine ⟨_, rfl, ?_⟩; replace za := bK za hb; replace zb := bK zb hb; replace HB := bS (qB2 HB zd ze) hb; (try clear hb); (try clear hk); (try clear hi)))
 replace za := aM (blk_drew za.out)
 replace zb := aM (blk_drew zb.out)
 replace HB := aM (below_drew1 HB.out)
 refine start_ (n := 9) (S := fun w' => w'.cell? ⟨zh, 0, none⟩ = some (.int .i64 a0_0) ∧ w'.cell? ⟨zh, 1, none⟩ = some (.slice A0_1 l0_1.length c0_1) ∧ w'.cell? ⟨zh, 2, none⟩ = some (.slice A0_2 l0_2.length c0_2)) (ds := []) (bm 9 0) (by kernel_rfl) rfl rfl (h3 za) (fun hHeld => ?_); refine with_tabW view_Reshape.tab10 view_Reshape.bits10 (fun HT_ HW_ => ?_)
 generalize w21.drew = w22 at za zb HB hHeld ⊢
 refine pP (i := 0) (N := some 28) (bm 9 1) rfl rfl HT_.out ?_
 refine pP (i := 2) (N := some 30) (bm 9 5) rfl rfl HT_.out ?_
 refine pP (i := 4) (N := some 32) (bm 9 21) rfl rfl HT_.out ?_
 refine pT (i := 1) (N := some 29) (bm 9 23) rfl rfl HT_.out HW_.out hHeld (by rintro w' ⟨s0, s1, s2⟩; go_simp; with_reducible rfl) ?_
 refine one_ (i := 3) (N := some 31) (bm 9 31) rfl rfl (one_of HT_.out (by kernel_rfl)) (by decide) (fun K hK => ?_)
 refine goes_ Try.func42 (by kernel_rfl) rfl #[.slice A1 l1.length c1] (by rfl) rfl rfl pA ?_
 with_reducible refine (slices_Clone_int_int.calls _ _ l1 zs _ ?s1 ?s2 A12.out).mono ?_
 (case s1 => exact sC HR1 HB)
 (case s2 => exact HC1.out)
 rintro e w23 ⟨v133, rfl, ho0, hb⟩
 refine ⟨_, rfl, ?_⟩
 have zr := aM (Kd.R_lower ho0 (below_size (qB2 HB zd ze)))
 replace za := bK za hb
 replace zb := bK zb hb
 replace HB := bS (qB2 HB zd ze) hb
 (try clear hb)
 (try clear hk)
 (try clear hi)
 (try clear ho0)
 refine hK.out _ _ (h3 za) (fun hHeld => ?_)
 clear hK K
 refine norm_ (a' := ?_) ?_ ?_
 rotate_left
 ·show Act.put _ (some 31) _ = _
  simp only [Act.put, sP, i64_w, i32_w]
  rfl
 refine one_ (i := 5) (N := some 33) (bm 9 63) rfl rfl (one_of HT_.out (by kernel_rfl)) (by decide) (fun K hK => ?_)
 refine goes_ Try.func62 (by kernel_rfl) rfl #[.slice A1 l1.length c1] (by rfl) rfl rfl pA ?_
 with_reducible refine (shape_Steps.calls k _ _ l1 zt _ ?s1 ?s2 A13.out).mono ?_
 (case s1 => exact sC HR1 HB)
 (case s2 => exact HC1.out)
 rintro e w24 ⟨v136, rfl, ho0, hb⟩
 refine ⟨_, rfl, ?_⟩
 have zw := aM (Kd.R_lower (Kd.R_new' ho0 (Kd.R_lt (pR zr.out))) (below_size (qB2 HB zd ze)))
 replace zr := eR zr ho0 hb
 replace za := bK za hb
 replace zb := bK zb hb
 replace HB := bS (qB2 HB zd ze) hb
 (try clear hb)
 (try clear ho0)
 obtain ⟨Ao25, co25, z0⟩ := Kd.R_slice zw.out
 (first | subst z0 | (injection z0 with f1_ f2_ f3_; have f4_ := f1_.symm; have f5_ := f3_.symm; clear f1_ f2_ f3_; subst f4_; subst f5_))
 obtain ⟨Ao26, co26, z1⟩ := Kd.R_slice zr.out
 (first | subst z1 | (injection z1 with f1_ f2_ f3_; have f4_ := f1_.symm; have f5_ := f3_.symm; clear f1_ f2_ f3_; subst f4_; subst f5_))
 refine hK.out _ _ (h3 za) (fun hHeld => ?_)
 clear hK K
 refine norm_ (a' := ?_) ?_ ?_
 rotate_left
 ·show Act.put _ (some 33) _ = _
  simp only [Act.put, sP, i64_w, i32_w]
  rfl
 refine pP (i := 6) (N := some 34) (bm 9 127) rfl rfl HT_.out ?_
 refine one_ (i := 7) (N := none) (bm 9 255) rfl rfl (one_of HT_.out (by kernel_rfl)) (by decide) (fun K hK => ?_)
 have hs27 : w24.cell? ⟨zg, 0, none⟩ = some (.int .i64 0) := (blk_cell zb.out 0).trans rfl
 have hfs27 := blk_frozen zb.out 0
 have hns27_0 := zc.out
 have hms27_0 := zf.out
 have hs28 : w24.cell? ⟨zg, 1, none⟩ = some (.slice none 0 0) := (blk_cell zb.out 1).trans rfl
 have hfs28 := blk_frozen zb.out 1
 have hns28_0 := zc.out
 have hms28_0 := zf.out
 have hs29 : w24.cell? ⟨zg, 2, none⟩ = some (.slice none 0 0) := (blk_cell zb.out 2).trans rfl
 have hfs29 := blk_frozen zb.out 2
 have hns29_0 := zc.out
 have hms29_0 := zf.out
 refine skip_ (w1 := ?_) (by rfl) rfl ?_ ?_
 rotate_left
 ·go_simp
  rfl
 refine hK.out _ _ ⟨((cell_far (p := ⟨zg, _, none⟩) zc.out _).trans (((cell_far (p := ⟨zg, _, none⟩) zc.out _).trans (((cell_far (p := ⟨zg, _, none⟩) zc.out _).trans (hHeld.1)))))), ((cell_far (p := ⟨zg, _, none⟩) zc.out _).trans (((cell_far (p := ⟨zg, _, none⟩) zc.out _).trans (((cell_far (p := ⟨zg, _, none⟩) zc.out _).trans (hHeld.2.1)))))), ((cell_far (p := ⟨zg, _, none⟩) zc.out _).trans (((cell_far (p := ⟨zg, _, none⟩) zc.out _).trans (((cell_far (p := ⟨zg, _, none⟩) zc.out _).trans (hHeld.2.2))))))⟩ (fun hHeld => ?_)
 clear hK K
 refine pP (i := 8) (N := some 5) (bm 9 511) rfl rfl HT_.out ?_
 refine done_ (done_of HT_.out (by kernel_rfl)) ?_
 try go_wp2
 refine bodyPost_ret (results_ct rfl _ _ zg 44 #[.int .i64 a0_0, .slice Ao26 zs.length co26, .slice Ao25 zt.length co25] (0, 0) _ rfl (by exact P3 zb) Try.underlying44 rfl (by kernel_rfl)) rfl ?_
 exact ⟨_, _, pE, by (with_reducible repeat (first | apply rA | apply rN | apply rD)); exact F3 zr zb (fun _ hk => hk.1.2), by (with_reducible repeat (first | apply rA | apply rN | apply rD)); exact F3 zw zb (fun _ hk => hk.1.2), qB2 HB zd ze⟩
mutual
def view_Slice.j0 : Nat → Int → Int → Int → Int → Bool → Int → List Int → List Int → Option (Int × List Int × List Int × Int)
 | 0, _, _, _, _, _, _, _, _ => none
 | k + 1, x1, x2, x3, x4, x27, zt, zn, zr => if x27 = true then (some (0, ([] : List Int), ([] : List Int), 10)) else (if 0 ≤ x1 then (if x1 < (zn.length : Int) then (if x2 < 0 then (view_Slice.j1 k x1 x2 x3 x4 (rd zn x1) true zt zn zr) else (if x2 ≥ (rd zn x1) then (view_Slice.j1 k x1 x2 x3 x4 (rd zn x1) true zt zn zr) else (if x3 < 1 then (view_Slice.j1 k x1 x2 x3 x4 (rd zn x1) true zt zn zr) else (view_Slice.j1 k x1 x2 x3 x4 (rd zn x1) (decide (x3 > (rd zn x1))) zt zn zr)))) else (none)) else (none))
def view_Slice.j1 : Nat → Int → Int → Int → Int → Int → Bool → Int → List Int → List Int → Option (Int × List Int × List Int × Int)
 | 0, _, _, _, _, _, _, _, _, _ => none
 | k + 1, x1, x2, x3, x4, x12, x49, zt, zn, zr => if x49 = true then (some (0, ([] : List Int), ([] : List Int), 11)) else ((view_copied.f zt zn zr).bind fun bt179 => (if x3 > 1 then (if x4 = 0 then (view_Slice.j2 k x1 x2 x3 x4 x12 true zt zn zr bt179.1 bt179.2.1 bt179.2.2) else (if x4 ≥ x12 then (view_Slice.j2 k x1 x2 x3 x4 x12 true zt zn zr bt179.1 bt179.2.1 bt179.2.2) else (view_Slice.j2 k x1 x2 x3 x4 x12 (decide (x4 ≤ (wrap64 (-x12)))) zt zn zr bt179.1 bt179.2.1 bt179.2.2))) else (view_Slice.j3 k x1 x2 x3 zt zn zr bt179.1 bt179.2.1 bt179.2.2)))
def view_Slice.j3 : Nat → Int → Int → Int → Int → List Int → List Int → Int → List Int → List Int → Option (Int × List Int × List Int × Int)
 | 0, _, _, _, _, _, _, _, _, _ => none
 | k + 1, x1, x2, x3, zt, zn, zr, z0, z1, zw => if x2 > 0 then (if 0 ≤ x1 then (if x1 < (zr.length : Int) then (if x1 < (z1.length : Int) then ((some (z1.set (x1 : Int).toNat x3 : List Int)).bind fun z9 => (if x3 = 1 then (if x1 < (zw.length : Int) then (some (wrap64 (z0 + (wrap64 (x2 * (rd zr x1)))), z9, (zw.set (x1 : Int).toNat 0), 0)) else (none)) else (some (wrap64 (z0 + (wrap64 (x2 * (rd zr x1)))), z9, zw, 0)))) else (none)) else (none)) else (none)) else (if 0 ≤ x1 then (if x1 < (z1.length : Int) then ((some (z1.set (x1 : Int).toNat x3 : List Int)).bind fun zaa => (if x3 = 1 then (if x1 < (zw.length : Int) then (some (z0, zaa, (zw.set (x1 : Int).toNat 0), 0)) else (none)) else (some (z0, zaa, zw, 0)))) else (none)) else (none))
def view_Slice.j2 : Nat → Int → Int → Int → Int → Int → Bool → Int → List Int → List Int → Int → List Int → List Int → Option (Int × List Int × List Int × Int)
 | 0, _, _, _, _, _, _, _, _, _, _, _, _ => none
 | k + 1, x1, x2, x3, x4, x12, x67, zt, zn, zr, z0, z1, zw => if x67 = true then (some (0, ([] : List Int), ([] : List Int), 11)) else (if (wrap64 (x2 + (wrap64 ((wrap64 (x3 - 1)) * x4)))) < 0 then (some (0, ([] : List Int), ([] : List Int), 11)) else (if (wrap64 (x2 + (wrap64 ((wrap64 (x3 - 1)) * x4)))) ≥ x12 then (some (0, ([] : List Int), ([] : List Int), 11)) else (if 0 ≤ x1 then (if x1 < (zr.length : Int) then (if x1 < (zw.length : Int) then (view_Slice.j3 k x1 x2 x3 zt zn zr z0 z1 (zw.set (x1 : Int).toNat (wrap64 ((rd zr x1) * x4)))) else (none)) else (none)) else (none))))
end
def view_Slice.f (k : Nat) (a0_0 : Int) (l0_1 : List Int) (l0_2 : List Int) (a1 : Int) (a2 : Int) (a3 : Int) (a4 : Int) : Option (Int × List Int × List Int × Int) := (view_right.f k a0_0 l0_1 l0_2).bind fun zam => (if zam = true then (if a1 < 0 then (view_Slice.j0 k a1 a2 a3 a4 true a0_0 l0_1 l0_2) else (view_Slice.j0 k a1 a2 a3 a4 (decide (a1 ≥ (l0_1.length : Int))) a0_0 l0_1 l0_2)) else (some (0, ([] : List Int), ([] : List Int), 1)))
def view_Slice.T15 : Bool × List (List Nat × List Nat) := (true, [([], []), ([0], [0]), ([], []), ([], []), ([3], [3]), ([], []), ([4, 5], [4, 5]), ([6], [6]), ([], []), ([7, 8], [7, 8]), ([1, 2, 0, 1, 2, 3, 4, 5, 6, 7, 8, 9], [1, 2]), ([10, 9, 0, 1, 2, 3, 4, 5, 6, 7, 8, 9], [9, 10])])
def view_Slice.B15 : List Nat := [0, 1, 0, 0, 8, 0, 56, 120, 0, 504, 1023, 2047]
theorem view_Slice.tab15 : rtab .any (opsOf Try.f45 15) = view_Slice.T15 := by kernel_rfl
theorem view_Slice.bits15 : waitsOk view_Slice.T15.2 view_Slice.B15 = true := by kernel_rfl
def view_Slice.T17 : Bool × List (List Nat × List Nat) := (true, [([], []), ([0], [0]), ([], []), ([], []), ([3], [3]), ([], []), ([4, 5], [4, 5]), ([6], [6]), ([2, 7], [2, 7]), ([1, 8], [1, 8]), ([0, 1, 2, 3, 4, 5, 6, 7, 8, 9], []), ([10, 9, 0, 1, 2, 3, 4, 5, 6, 7, 8, 9], [9, 10])])
def view_Slice.B17 : List Nat := [0, 1, 0, 0, 8, 0, 56, 120, 252, 511, 1023, 2047]
theorem view_Slice.tab17 : rtab .any (opsOf Try.f45 17) = view_Slice.T17 := by kernel_rfl
theorem view_Slice.bits17 : waitsOk view_Slice.T17.2 view_Slice.B17 = true := by kernel_rfl
set_option maxHeartbeats 8000000 in
set_option maxRecDepth 100000 in
theorem view_Slice.calls (k : Nat) (a0_0 : Int) (A0_1 : Option Addr) (c0_1 : Nat) (l0_1 : List Int) (A0_2 : Option Addr) (c0_2 : Nat) (l0_2 : List Int) (a1 : Int) (a2 : Int) (a3 : Int) (a4 : Int) (r1 : Int) (r2 : List Int) (r3 : List Int) (r4 : Int) (w : World) (hr0_1 : Kd.C (Kd.int .i64) w A0_1 l0_1.length l0_1) (hc0_1 : l0_1.length ≤ c0_1) (hr0_2 : Kd.C (Kd.int .i64) w A0_2 l0_2.length l0_2) (hc0_2 : l0_2.length ≤ c0_2) (h : view_Slice.f k a0_0 l0_1 l0_2 a1 a2 a3 a4 = some (r1, r2, r3, r4)) :
  Calls Try.prog 45 #[.agg #[.int .i64 a0_0, .slice A0_1 l0_1.length c0_1, .slice A0_2 l0_2.length c0_2], .int .i64 a1, .int .i64 a2, .int .i64 a3, .int .i64 a4] w fun e w' => ∃ v1_ v2_ : Value, e = .returned (.tuple #[.agg #[.int .i64 r1, v1_, v2_], .int .i64 r4]) ∧ Kd.R (Kd.int .i64) 3 w' w.heap.size (fun k_ => some k_ ≠ (v2_ : Value).ownBlock) v1_ r2 ∧ Kd.R (Kd.int .i64) 3 w' w.heap.size (fun k_ => some k_ ≠ (v1_ : Value).ownBlock) v2_ r3 ∧ Below w.heap.size w w' := by
 have hu44 := Try.underlying44
 have zag := aM hr0_1
 have zan := aM hc0_1
 clear hr0_1 hc0_1
 have z7 := aM hr0_2
 have zao := aM hc0_2
 clear hr0_2 hc0_2
 have HB := aM (Below.refl w.heap.size w)
 have H : ((view_right.f k a0_0 l0_1 l0_2).bind fun zam => (if zam = true then (if a1 < 0 then (view_Slice.j0 k a1 a2 a3 a4 true a0_0 l0_1 l0_2) else (view_Slice.j0 k a1 a2 a3 a4 (decide (a1 ≥ (l0_1.length : Int))) a0_0 l0_1 l0_2)) else (some (0, ([] : List Int), ([] : List Int), 1)))) = some (r1, r2, r3, r4) := h
 clear h
 replace H := Option.bind_eq_some_iff.mp H
 obtain ⟨zam, A60, H⟩ := H
 try dsimp only at H
 have A6 := aM A60
 clear A60
 by_cases c7 : zam = true
 rotate_left
 ·replace c7 := Bool.eq_false_iff.mpr c7
  subst c7
  rw [if_neg (show ¬ (false = true) by decide)] at H
  simp only [Option.some.injEq, Prod.mk.injEq] at H
  obtain ⟨rfl, rfl, rfl, rfl⟩ := H
  go_enter Try.func45, Try.ntmps45
  go_wp2_with (first | ((with_reducible refine gate_dst (N := 5) rfl ?_); (try (refine gate_guard (by rfl) ?_; dsimp only)); refine box_event ?hg (N := 5) ?hd (cs := #[.int .i64 a0_0, .slice A0_1 l0_1.length c0_1, .slice A0_2 l0_2.length c0_2]) (t := 44) ?hr ?_; (case hd => rfl); (case hg => rfl); (case hr => first | (go_simp; done) | (go_simp; rfl)); intro zu hg w124 hbox hb; have zf := aM (hbox); have zap := gE (w := w) hg (qB HB); have zl := zap; replace HB := bS (qB HB) hb; clear hb hbox hg) | ((with_reducible refine gate_dst (N := 10) rfl ?_); (try (refine gate_guard (by rfl) ?_; dsimp only)); refine box_event ?hg (N := 10) ?hd (cs := #[.int .i64 0, .slice none 0 0, .slice none 0 0]) (t := 44) ?hr ?_; (case hd => rfl); (case hg => rfl); (case hr => first | (go_simp; done) | (go_simp; rfl)); intro zm hg w125 hbox hb; have ze := aM (hbox); have zaq := gE (w := w) hg (qB1 HB zl); have zp := zaq; replace HB := bS (qB1 HB zl) hb; have zj := nL hg zf; have zk := nG hg zf; replace zf := bK zf hb; clear hb hbox hg; have hnb126 := zj.out; have hnc126 := zk.out; obtain ⟨hcz127_0, hcz127_1, hcz127_2, hfz127_0, hfz127_1, hfz127_2⟩ := blk3 zf.out) | ((with_reducible refine gate_callee (f := 49) rfl ?_); refine goesL_ (some 16) rfl rfl Try.func49 (by kernel_rfl) rfl #[.agg #[.int .i64 a0_0, .slice A0_1 l0_1.length c0_1, .slice A0_2 l0_2.length c0_2]] rfl pA ?_; (with_reducible refine (view_right.calls k a0_0 _ _ l0_1 _ _ l0_2 false _ ?s1 ?s2 ?s3 ?s4 A6.out).mono ?_); (case s1 => exact sC zag HB); (case s2 => exact zan.out); (case s3 => exact sC z7 HB); (case s4 => exact zao.out); rintro e w128 ⟨rfl, hb⟩; refine ⟨_, rfl, ?_⟩; replace zf := bK zf hb; replace ze := bK ze hb; replace HB := bS (qB2 HB zl zp) hb; (try clear hb); (try clear hk); (try clear hi); obtain ⟨hcz129_0, hcz129_1, hcz129_2, hfz129_0, hfz129_1, hfz129_2⟩ := blk3 ze.out))
  refine bodyPost_ret (results_ct rfl _ _ zm 44 #[.int .i64 0, .slice none 0 0, .slice none 0 0] (0, 0) _ rfl (by exact P3 ze) Try.underlying44 rfl (by kernel_rfl)) rfl ?_
  exact ⟨_, _, pE, pN, pN, qB2 HB zl zp⟩
 subst c7
 rw [if_pos rfl] at H
 have HC8 := aM H
 clear H
 go_enter Try.func45, Try.ntmps45
 go_upto_region 3 with (first | ((with_reducible refine gate_dst (N := 5) rfl ?_); (try (refine gate_guard (by rfl) ?_; dsimp only)); refine box_event ?hg (N := 5) ?hd (cs := #[.int .i64 a0_0, .slice A0_1 l0_1.length c0_1, .slice A0_2 l0_2.length c0_2]) (t := 44) ?hr ?_; (case hd => rfl); (case hg => rfl); (case hr => first | (go_simp; done) | (go_simp; rfl)); intro zu hg w9 hbox hb; have zf := aM (hbox); have zap := gE (w := w) hg (qB HB); have zl := zap; replace HB := bS (qB HB) hb; clear hb hbox hg) | ((with_reducible refine gate_dst (N := 10) rfl ?_); (try (refine gate_guard (by rfl) ?_; dsimp only)); refine box_event ?hg (N := 10) ?hd (cs := #[.int .i64 0, .slice none 0 0, .slice none 0 0]) (t := 44) ?hr ?_; (case hd => rfl); (case hg => rfl); (case hr => first | (go_simp; done) | (go_simp; rfl)); intro zm hg w10 hbox hb; have ze := aM (hbox); have zaq := gE (w := w) hg (qB1 HB zl); have zp := zaq; replace HB := bS (qB1 HB zl) hb; have zj := nL hg zf; have zk := nG hg zf; replace zf := bK zf hb; clear hb hbox hg; have hnb11 := zj.out; have hnc11 := zk.out; obtain ⟨hcz12_0, hcz12_1, hcz12_2, hfz12_0, hfz12_1, hfz12_2⟩ := blk3 zf.out) | ((with_reducible refine gate_callee (f := 49) rfl ?_); refine goesL_ (some 16) rfl rfl Try.func49 (by kernel_rfl) rfl #[.agg #[.int .i64 a0_0, .slice A0_1 l0_1.length c0_1, .slice A0_2 l0_2.length c0_2]] rfl pA ?_; (with_reducible refine (view_right.calls k a0_0 _ _ l0_1 _ _ l0_2 true _ ?s1 ?s2 ?s3 ?s4 A6.out).mono ?_); (case s1 => exact sC zag HB); (case s2 => exact zan.out); (case s3 => exact sC z7 HB); (case s4 => exact zao.out); rintro e w13 ⟨rfl, hb⟩; refine ⟨_, rfl, ?_⟩; replace zf := bK zf hb; replace ze := bK ze hb; replace HB := bS (qB2 HB zl zp) hb; (try clear hb); (try clear hk); (try clear hi)))
 (try simp only [Act.put, sP])
 go_cut [27] (fun v27 wc => ∃ (kq : Nat) (x27_7 : Bool), v27 = .bool x27_7 ∧ Aside0 (view_Slice.j0 kq a1 a2 a3 a4 x27_7 a0_0 l0_1 l0_2 = some (r1, r2, r3, r4)) ∧ Aside0 (kq ≤ k) ∧ Aside0 (wc.heap[zu]? = some (.cells #[.int .i64 a0_0, (.slice A0_1 l0_1.length c0_1), (.slice A0_2 l0_2.length c0_2)] 44 (0, 0))) ∧ Aside0 (wc.heap[zm]? = some (.cells #[.int .i64 0, (.slice none 0 0), (.slice none 0 0)] 44 (0, 0))) ∧ Aside0 (Below w.heap.size w wc))
 case first =>
  have H := HC8.out
  clear HC8
  by_cases c14 : a1 < 0
  ·rw [if_pos c14] at H
   have zab : decide (a1 < 0) = true := decide_eq_true c14
   clear c14
   (first | rw [zab] | (simp only [i64_w, i32_w]; rw [zab]) | skip)
   have H' := aM H
   clear H
   go_wp2
   go_meet
   case rel => exact ⟨_, (true), (pF), H', ⟨by first | omega | exact Nat.le_refl _⟩, ⟨pK zf.out⟩, ⟨pK ze.out⟩, ⟨qB2 HB zl zp⟩⟩
  rw [if_neg c14] at H
  have zab : decide (a1 < 0) = false := decide_eq_false c14
  clear c14
  (first | rw [zab] | (simp only [i64_w, i32_w]; rw [zab]) | skip)
  have H' := aM H
  clear H
  have hnb15 := zj.out
  have hnc15 := zk.out
  obtain ⟨hcz16_0, hcz16_1, hcz16_2, hfz16_0, hfz16_1, hfz16_2⟩ := blk3 zf.out
  go_wp2
  go_meet
  case rel => exact ⟨_, (decide (a1 ≥ (l0_1.length : Int))), (pF), H', ⟨by first | omega | exact Nat.le_refl _⟩, ⟨pK zf.out⟩, ⟨pK ze.out⟩, ⟨qB2 HB zl zp⟩⟩
 case rest =>
  clear HC8
  try clear c7
  try clear hcz12_0 hcz12_1 hcz12_2 hfz12_0 hfz12_1 hfz12_2
  obtain ⟨kq, x27_7, rfl, HA, HJ7, zf, ze, HB⟩ := hcut
  cases kq with
  | zero => exact absurd HA.out (by simp [view_Slice.j0])
  | succ kj7 =>
   have H := HA.out
   clear HA
   simp only [view_Slice.j0] at H
   by_cases c17 : x27_7 = true
   ·subst c17
    rw [if_pos rfl] at H
    simp only [Option.some.injEq, Prod.mk.injEq] at H
    obtain ⟨rfl, rfl, rfl, rfl⟩ := H
    have hnb18 := zk.out
    have hnc18 := zj.out
    obtain ⟨hcz19_0, hcz19_1, hcz19_2, hfz19_0, hfz19_1, hfz19_2⟩ := blk3 ze.out
    go_wp2
    refine bodyPost_ret (results_ct rfl _ _ zm 44 #[.int .i64 0, .slice none 0 0, .slice none 0 0] (0, 0) _ rfl (by exact P3 ze) Try.underlying44 rfl (by kernel_rfl)) rfl ?_
    exact ⟨_, _, pE, pN, pN, qB2 HB zl zp⟩
   replace c17 := Bool.eq_false_iff.mpr c17
   subst c17
   rw [if_neg (show ¬ (false = true) by decide)] at H
   by_cases c20 : 0 ≤ a1
   rotate_left
   ·rw [if_neg c20] at H
    exact absurd H (by simp)
   rw [if_pos c20] at H
   have c20b0 : decide (0 ≤ a1) = true := decide_eq_true c20
   clear c20
   by_cases c21 : a1 < (l0_1.length : Int)
   rotate_left
   ·rw [if_neg c21] at H
    exact absurd H (by simp)
   rw [if_pos c21] at H
   have c21b0 : decide (a1 < (l0_1.length : Int)) = true := decide_eq_true c21
   clear c21
   have HC22 := aM H
   clear H
   have hnb23 := zj.out
   have hnc23 := zk.out
   obtain ⟨hcz24_0, hcz24_1, hcz24_2, hfz24_0, hfz24_1, hfz24_2⟩ := blk3 zf.out
   have p178 : 0 ≤ (a1 : Int) := of_decide_eq_true pD
   have q178 : a1 < (l0_1.length : Int) := of_decide_eq_true pD
   obtain ⟨ad178, e178, hx178_0⟩ := Kd.at_int zag.out a1 p178 q178
   cases e178
   replace hx178_0 := (HB.out.cell (World.block_lt_of_cell? w _ hx178_0)).trans hx178_0
   replace p178 := eq_true p178
   replace q178 := eq_true q178
   go_upto_region 6 with (fail)
   go_cut [49] (fun v49 wc => ∃ (kq : Nat) (x49_21 : Bool), v49 = .bool x49_21 ∧ Aside0 (view_Slice.j1 kq a1 a2 a3 a4 (rd l0_1 a1) x49_21 a0_0 l0_1 l0_2 = some (r1, r2, r3, r4)) ∧ Aside0 (kq ≤ kj7) ∧ Aside0 (wc.heap[zu]? = some (.cells #[.int .i64 a0_0, (.slice (some ad178) l0_1.length c0_1), (.slice A0_2 l0_2.length c0_2)] 44 (0, 0))) ∧ Aside0 (wc.heap[zm]? = some (.cells #[.int .i64 0, (.slice none 0 0), (.slice none 0 0)] 44 (0, 0))) ∧ Aside0 (Below w.heap.size w wc))
   case first =>
    have H := HC22.out
    clear HC22
    by_cases c25 : a2 < 0
    ·rw [if_pos c25] at H
     have zac : decide (a2 < 0) = true := decide_eq_true c25
     clear c25
     (first | rw [zac] | (simp only [i64_w, i32_w]; rw [zac]) | skip)
     have H' := aM H
     clear H
     go_wp2
     go_meet
     case rel => exact ⟨_, (true), (pF), H', ⟨by have := HJ7.out; first | omega | exact Nat.le_refl _⟩, ⟨pK zf.out⟩, ⟨pK ze.out⟩, ⟨qB2 HB zl zp⟩⟩
    rw [if_neg c25] at H
    have zac : decide (a2 < 0) = false := decide_eq_false c25
    clear c25
    (first | rw [zac] | (simp only [i64_w, i32_w]; rw [zac]) | skip)
    by_cases c26 : a2 ≥ (rd l0_1 a1)
    ·rw [if_pos c26] at H
     have c26b0 : decide ((rd l0_1 a1) ≤ a2) = true := decide_eq_true c26
     clear c26
     have H' := aM H
     clear H
     go_wp2
     go_meet
     case rel => exact ⟨_, (true), (pF), H', ⟨by have := HJ7.out; first | omega | exact Nat.le_refl _⟩, ⟨pK zf.out⟩, ⟨pK ze.out⟩, ⟨qB2 HB zl zp⟩⟩
    rw [if_neg c26] at H
    have c26b0 : decide ((rd l0_1 a1) ≤ a2) = false := decide_eq_false c26
    clear c26
    by_cases c27 : a3 < 1
    ·rw [if_pos c27] at H
     have c27b0 : decide (a3 < 1) = true := decide_eq_true c27
     clear c27
     have H' := aM H
     clear H
     go_wp2
     go_meet
     case rel => exact ⟨_, (true), (pF), H', ⟨by have := HJ7.out; first | omega | exact Nat.le_refl _⟩, ⟨pK zf.out⟩, ⟨pK ze.out⟩, ⟨qB2 HB zl zp⟩⟩
    rw [if_neg c27] at H
    have c27b0 : decide (a3 < 1) = false := decide_eq_false c27
    clear c27
    have H' := aM H
    clear H
    go_wp2
    go_meet
    case rel => exact ⟨_, (decide (a3 > (rd l0_1 a1))), (pF), H', ⟨by have := HJ7.out; first | omega | exact Nat.le_refl _⟩, ⟨pK zf.out⟩, ⟨pK ze.out⟩, ⟨qB2 HB zl zp⟩⟩
   case rest =>
    clear HC22
    try clear c17
    try clear c20b0
    try clear c21b0
    try clear hcz24_0 hcz24_1 hcz24_2 hfz24_0 hfz24_1 hfz24_2
    try clear hx178_0
    try clear p178
    try clear q178
    obtain ⟨kq, x49_21, rfl, HA, zar, zf, ze, HB⟩ := hcut
    cases kq with
    | zero => exact absurd HA.out (by simp [view_Slice.j1])
    | succ za9 =>
     have H := HA.out
     clear HA
     simp only [view_Slice.j1] at H
     by_cases c28 : x49_21 = true
     ·subst c28
      rw [if_pos rfl] at H
      simp only [Option.some.injEq, Prod.mk.injEq] at H
      obtain ⟨rfl, rfl, rfl, rfl⟩ := H
      have hnb29 := zk.out
      have hnc29 := zj.out
      obtain ⟨hcz30_0, hcz30_1, hcz30_2, hfz30_0, hfz30_1, hfz30_2⟩ := blk3 ze.out
      go_wp2
      refine bodyPost_ret (results_ct rfl _ _ zm 44 #[.int .i64 0, .slice none 0 0, .slice none 0 0] (0, 0) _ rfl (by exact P3 ze) Try.underlying44 rfl (by kernel_rfl)) rfl ?_
      exact ⟨_, _, pE, pN, pN, qB2 HB zl zp⟩
     replace c28 := Bool.eq_false_iff.mpr c28
     subst c28
     rw [if_neg (show ¬ (false = true) by decide)] at H
     replace H := Option.bind_eq_some_iff.mp H
     obtain ⟨⟨zq, z4, z3⟩, zba, H⟩ := H
     try dsimp only at H
     have A31 := aM zba
     clear zba
     have HC32 := aM H
     clear H
     have hnb33 := zj.out
     have hnc33 := zk.out
     obtain ⟨hcz34_0, hcz34_1, hcz34_2, hfz34_0, hfz34_1, hfz34_2⟩ := blk3 zf.out
     go_upto_if 54 with (first | ((with_reducible refine gate_callee (f := 72) rfl ?_); refine goesL_ (some 52) rfl rfl Try.func72 (by kernel_rfl) rfl #[.agg #[.int .i64 a0_0, .slice (some ad178) l0_1.length c0_1, .slice A0_2 l0_2.length c0_2]] rfl pA ?_; (with_reducible refine (view_copied.calls a0_0 _ _ l0_1 _ _ l0_2 zq z4 z3 _ ?s1 ?s2 ?s3 ?s4 A31.out).mono ?_); (case s1 => exact sC zag HB); (case s2 => exact zan.out); (case s3 => exact sC z7 HB); (case s4 => exact zao.out); rintro e w35 ⟨v181, v184, rfl, ho0, ho1, hb⟩; refine ⟨_, rfl, ?_⟩; have z5 := aM (Kd.R_lower ho0 (below_size (qB2 HB zl zp))); have z6 := aM (Kd.R_lower ho1 (below_size (qB2 HB zl zp))); replace zf := bK zf hb; replace ze := bK ze hb; replace HB := bS (qB2 HB zl zp) hb; (try clear hb); (try clear hk); (try clear hi); (try clear ho0); (try clear ho1)) | ((with_reducible refine gate_dst (N := 13) rfl ?_); (try (refine gate_guard (by rfl) ?_; dsimp only)); refine box_event ?hg (N := 13) ?hd (cs := #[.int .i64 0, .slice none 0 0, .slice none 0 0]) (t := 44) ?hr ?_; (case hd => rfl); (case hg => rfl); (case hr => first | (go_simp; done) | (go_simp; rfl)); intro zh hg w36 hbox hb; replace z5 := bR z5 hb; replace z6 := bR z6 hb; have zg := aM (hbox); have GW186 := gE (w := w) hg (qB2 HB zl zp); have zx := GW186; replace HB := bS (qB2 HB zl zp) hb; have zo := nL hg zf; have zv := nG hg zf; replace zf := bK zf hb; have zi := nL hg ze; have zs := nG hg ze; replace ze := bK ze hb; clear hb hbox hg; have hnb37 := zv.out; have hnc37 := zo.out; have hnb38 := zs.out; have hnc38 := zi.out; obtain ⟨hcz39_0, hcz39_1, hcz39_2, hfz39_0, hfz39_1, hfz39_2⟩ := blk3 zg.out; obtain ⟨zai, zaj, eo40⟩ := Kd.R_slice z5.out; subst eo40; obtain ⟨za0, zak, eo41⟩ := Kd.R_slice z6.out; subst eo41))
     (try simp only [Act.put, sP])
     go_cut [] (fun wc => ∃ (kq : Nat) (zy : Int) (zc : List Int) (zd : List Int) (u187001 : Value) (u187002 : Value), Aside0 (view_Slice.j3 kq a1 a2 a3 a0_0 l0_1 l0_2 zq zc zd = some (r1, r2, r3, r4)) ∧ Aside0 (kq ≤ za9) ∧ Aside0 (Kd.R (Kd.int .i64) 3 wc w.heap.size (fun k_ => some k_ ≠ (u187002 : Value).ownBlock) u187001 zc) ∧ Aside0 (Kd.R (Kd.int .i64) 3 wc w.heap.size (fun k_ => some k_ ≠ (u187001 : Value).ownBlock) u187002 zd) ∧ Aside0 (wc.heap[zu]? = some (.cells #[.int .i64 a0_0, (.slice (some ad178) l0_1.length c0_1), (.slice A0_2 l0_2.length c0_2)] 44 (0, 0))) ∧ Aside0 (wc.heap[zm]? = some (.cells #[.int .i64 zy, (.slice none 0 0), (.slice none 0 0)] 44 (0, 0))) ∧ Aside0 (wc.heap[zh]? = some (.cells #[.int .i64 zq, u187001, u187002] 44 (0, 0))) ∧ Aside0 (Below w.heap.size w wc))
     case first =>
      have H := HC32.out
      clear HC32
      by_cases c42 : a3 > 1
      rotate_left
      ·rw [if_neg c42] at H
       have z8 : decide (1 < a3) = false := decide_eq_false c42
       clear c42
       (first | rw [z8] | (simp only [i64_w, i32_w]; rw [z8]) | skip)
       have H' := aM H
       clear H
       go_wp2
       go_meet
       case rel => exact ⟨_, (0), (z4), (z3), (.slice zai z4.length zaj), (.slice za0 z3.length zak), H', ⟨by have := HJ7.out; have := zar.out; first | omega | exact Nat.le_refl _⟩, ⟨by (with_reducible repeat (first | apply rA | apply rN | apply rD)); exact F3 z5 zg (fun _ hk => hk.1)⟩, ⟨by (with_reducible repeat (first | apply rA | apply rN | apply rD)); exact F3 z6 zg (fun _ hk => hk.1)⟩, ⟨by refine B3 zo ?_; exact zf.out⟩, ⟨by refine B3 zi ?_; exact ze.out⟩, ⟨by exact P3 zg⟩, ⟨qB3 HB zl zp zx⟩⟩
      rw [if_pos c42] at H
      have z8 : decide (1 < a3) = true := decide_eq_true c42
      clear c42
      (first | rw [z8] | (simp only [i64_w, i32_w]; rw [z8]) | skip)
      have HC43 := aM H
      clear H
      go_upto_region 10 with (fail)
      go_cut [67] (fun v67 wc => ∃ (kq : Nat) (x67_42 : Bool), v67 = .bool x67_42 ∧ Aside0 (view_Slice.j2 kq a1 a2 a3 a4 (rd l0_1 a1) x67_42 a0_0 l0_1 l0_2 zq z4 z3 = some (r1, r2, r3, r4)) ∧ Aside0 (kq ≤ za9) ∧ Aside0 (Kd.R (Kd.int .i64) 3 wc w.heap.size (fun k_ => some k_ ≠ ((.slice za0 z3.length zak) : Value).ownBlock) (.slice zai z4.length zaj) z4) ∧ Aside0 (Kd.R (Kd.int .i64) 3 wc w.heap.size (fun k_ => some k_ ≠ ((.slice zai z4.length zaj) : Value).ownBlock) (.slice za0 z3.length zak) z3) ∧ Aside0 (wc.heap[zu]? = some (.cells #[.int .i64 a0_0, (.slice (some ad178) l0_1.length c0_1), (.slice A0_2 l0_2.length c0_2)] 44 (0, 0))) ∧ Aside0 (wc.heap[zm]? = some (.cells #[.int .i64 0, (.slice none 0 0), (.slice none 0 0)] 44 (0, 0))) ∧ Aside0 (wc.heap[zh]? = some (.cells #[.int .i64 zq, (.slice zai z4.length zaj), (.slice za0 z3.length zak)] 44 (0, 0))) ∧ Aside0 (Below w.heap.size w wc))
      case first =>
       have H := HC43.out
       clear HC43
       by_cases c44 : a4 = 0
       ·rw [if_pos c44] at H
        have zad : (a4 == 0) = true := beq_iff_eq.mpr c44
        have c44b1 : (a4 != 0) = false := bne_eq_false_iff_eq.mpr c44
        clear c44
        (first | rw [zad] | (simp only [i64_w, i32_w]; rw [zad]) | skip)
        have H' := aM H
        clear H
        go_wp2
        go_meet
        case rel => exact ⟨_, (true), (pF), H', ⟨by have := HJ7.out; have := zar.out; first | omega | exact Nat.le_refl _⟩, ⟨by (with_reducible repeat (first | apply rA | apply rN | apply rD)); exact F3 z5 zg (fun _ hk => hk.1)⟩, ⟨by (with_reducible repeat (first | apply rA | apply rN | apply rD)); exact F3 z6 zg (fun _ hk => hk.1)⟩, ⟨by refine B3 zo ?_; exact zf.out⟩, ⟨by refine B3 zi ?_; exact ze.out⟩, ⟨by exact P3 zg⟩, ⟨qB3 HB zl zp zx⟩⟩
       rw [if_neg c44] at H
       have zad : (a4 == 0) = false := beq_eq_false_iff_ne.mpr c44
       have c44b1 : (a4 != 0) = true := bne_iff_ne.mpr c44
       (first | rw [zad] | (simp only [i64_w, i32_w]; rw [zad]) | skip)
       by_cases c45 : a4 ≥ (rd l0_1 a1)
       ·rw [if_pos c45] at H
        have c45b0 : decide ((rd l0_1 a1) ≤ a4) = true := decide_eq_true c45
        clear c45
        have H' := aM H
        clear H
        go_wp2
        go_meet
        case rel => exact ⟨_, (true), (pF), H', ⟨by have := HJ7.out; have := zar.out; first | omega | exact Nat.le_refl _⟩, ⟨by (with_reducible repeat (first | apply rA | apply rN | apply rD)); exact F3 z5 zg (fun _ hk => hk.1)⟩, ⟨by (with_reducible repeat (first | apply rA | apply rN | apply rD)); exact F3 z6 zg (fun _ hk => hk.1)⟩, ⟨by refine B3 zo ?_; exact zf.out⟩, ⟨by refine B3 zi ?_; exact ze.out⟩, ⟨by exact P3 zg⟩, ⟨qB3 HB zl zp zx⟩⟩
       rw [if_neg c45] at H
       have c45b0 : decide ((rd l0_1 a1) ≤ a4) = false := decide_eq_false c45
       clear c45
       have H' := aM H
       clear H
       go_wp2
       go_meet
       case rel => exact ⟨_, (decide (a4 ≤ (wrap64 (-(rd l0_1 a1))))), (pF), H', ⟨by have := HJ7.out; have := zar.out; first | omega | exact Nat.le_refl _⟩, ⟨by (with_reducible repeat (first | apply rA | apply rN | apply rD)); exact F3 z5 zg (fun _ hk => hk.1)⟩, ⟨by (with_reducible repeat (first | apply rA | apply rN | apply rD)); exact F3 z6 zg (fun _ hk => hk.1)⟩, ⟨by refine B3 zo ?_; exact zf.out⟩, ⟨by refine B3 zi ?_; exact ze.out⟩, ⟨by exact P3 zg⟩, ⟨qB3 HB zl zp zx⟩⟩
      case rest =>
       clear HC43
       try clear c28
       try clear z8
       try clear hcz34_0 hcz34_1 hcz34_2 hcz39_0 hcz39_1 hcz39_2 hfz34_0 hfz34_1 hfz34_2 hfz39_0 hfz39_1 hfz39_2
       obtain ⟨kq, x67_42, rfl, HA, HJ42, zb, za, zf, ze, zg, HB⟩ := hcut
       cases kq with
       | zero => exact absurd HA.out (by simp [view_Slice.j2])
       | succ kj42 =>
        have H := HA.out
        clear HA
        simp only [view_Slice.j2] at H
        by_cases c46 : x67_42 = true
        ·subst c46
         rw [if_pos rfl] at H
         simp only [Option.some.injEq, Prod.mk.injEq] at H
         obtain ⟨rfl, rfl, rfl, rfl⟩ := H
         have hnb47 := zk.out
         have hnc47 := zj.out
         have hnb48 := zi.out
         have hnc48 := zs.out
         obtain ⟨hcz49_0, hcz49_1, hcz49_2, hfz49_0, hfz49_1, hfz49_2⟩ := blk3 ze.out
         go_wp2
         refine bodyPost_ret (results_ct rfl _ _ zm 44 #[.int .i64 0, .slice none 0 0, .slice none 0 0] (0, 0) _ rfl (by exact P3 ze) Try.underlying44 rfl (by kernel_rfl)) rfl ?_
         exact ⟨_, _, pE, pN, pN, qB3 HB zl zp zx⟩
        replace c46 := Bool.eq_false_iff.mpr c46
        subst c46
        rw [if_neg (show ¬ (false = true) by decide)] at H
        by_cases c50 : (wrap64 (a2 + (wrap64 ((wrap64 (a3 - 1)) * a4)))) < 0
        ·rw [if_pos c50] at H
         have c50b0 : decide ((wrap64 (a2 + (wrap64 ((wrap64 (a3 - 1)) * a4)))) < 0) = true := decide_eq_true c50
         clear c50
         simp only [Option.some.injEq, Prod.mk.injEq] at H
         obtain ⟨rfl, rfl, rfl, rfl⟩ := H
         have hnb51 := zk.out
         have hnc51 := zj.out
         have hnb52 := zi.out
         have hnc52 := zs.out
         obtain ⟨hcz53_0, hcz53_1, hcz53_2, hfz53_0, hfz53_1, hfz53_2⟩ := blk3 ze.out
         go_wp2
         refine bodyPost_ret (results_ct rfl _ _ zm 44 #[.int .i64 0, .slice none 0 0, .slice none 0 0] (0, 0) _ rfl (by exact P3 ze) Try.underlying44 rfl (by kernel_rfl)) rfl ?_
         exact ⟨_, _, pE, pN, pN, qB3 HB zl zp zx⟩
        rw [if_neg c50] at H
        have c50b0 : decide ((wrap64 (a2 + (wrap64 ((wrap64 (a3 - 1)) * a4)))) < 0) = false := decide_eq_false c50
        clear c50
        by_cases c54 : (wrap64 (a2 + (wrap64 ((wrap64 (a3 - 1)) * a4)))) ≥ (rd l0_1 a1)
        ·rw [if_pos c54] at H
         have c54b0 : decide ((rd l0_1 a1) ≤ (wrap64 (a2 + (wrap64 ((wrap64 (a3 - 1)) * a4))))) = true := decide_eq_true c54
         clear c54
         simp only [Option.some.injEq, Prod.mk.injEq] at H
         obtain ⟨rfl, rfl, rfl, rfl⟩ := H
         have hnb55 := zk.out
         have hnc55 := zj.out
         have hnb56 := zi.out
         have hnc56 := zs.out
         obtain ⟨hcz57_0, hcz57_1, hcz57_2, hfz57_0, hfz57_1, hfz57_2⟩ := blk3 ze.out
         go_wp2
         refine bodyPost_ret (results_ct rfl _ _ zm 44 #[.int .i64 0, .slice none 0 0, .slice none 0 0] (0, 0) _ rfl (by exact P3 ze) Try.underlying44 rfl (by kernel_rfl)) rfl ?_
         exact ⟨_, _, pE, pN, pN, qB3 HB zl zp zx⟩
        rw [if_neg c54] at H
        have c54b0 : decide ((rd l0_1 a1) ≤ (wrap64 (a2 + (wrap64 ((wrap64 (a3 - 1)) * a4))))) = false := decide_eq_false c54
        clear c54
        by_cases c58 : 0 ≤ a1
        rotate_left
        ·rw [if_neg c58] at H
         exact absurd H (by simp)
        rw [if_pos c58] at H
        have c58b0 : decide (0 ≤ a1) = true := decide_eq_true c58
        clear c58
        by_cases c59 : a1 < (l0_2.length : Int)
        rotate_left
        ·rw [if_neg c59] at H
         exact absurd H (by simp)
        rw [if_pos c59] at H
        have c59b0 : decide (a1 < (l0_2.length : Int)) = true := decide_eq_true c59
        clear c59
        by_cases c60 : a1 < (z3.length : Int)
        rotate_left
        ·rw [if_neg c60] at H
         exact absurd H (by simp)
        rw [if_pos c60] at H
        have c60b0 : decide (a1 < (z3.length : Int)) = true := decide_eq_true c60
        clear c60
        obtain ⟨zbb, zas⟩ : ∃ y_ : List Int, y_ = (z3.set (a1 : Int).toNat (wrap64 ((rd l0_2 a1) * a4))) := ⟨_, rfl⟩
        replace H : (view_Slice.j3 kj42 a1 a2 a3 a0_0 l0_1 l0_2 zq z4 zbb) = some (r1, r2, r3, r4) := pH zas H
        have Ny188 := aM zas
        clear zas
        have H' := aM H
        clear H
        try go_wp2
        replace zb := aM (Kd.R_drew zb.out)
        replace za := aM (Kd.R_drew za.out)
        replace zf := aM (blk_drew zf.out)
        replace ze := aM (blk_drew ze.out)
        replace zg := aM (blk_drew zg.out)
        replace HB := aM (below_drew1 HB.out)
        have p187 : 0 ≤ (a1 : Int) := of_decide_eq_true pD
        have q187 : a1 < (l0_2.length : Int) := of_decide_eq_true pD
        obtain ⟨ad187, e187, hx187_0⟩ := Kd.at_int z7.out a1 p187 q187
        have hw187_0 := hx187_0
        cases e187
        replace hx187_0 := (HB.out.cell (World.block_lt_of_cell? w _ hx187_0)).trans hx187_0
        replace p187 := eq_true p187
        replace q187 := eq_true q187
        have p61 : 0 ≤ (a1 : Int) := of_decide_eq_true pD
        have q61 : (a1 : Int) < ((z3.length : Int) : Int) := of_decide_eq_true pD
        obtain ⟨go61, co61, zbc, zbd, gl61, cl61, HG61⟩ := Kd.R_form za.out (by omega)
        (first | cases zbc | (injection zbc with ea_ en_ ec_; (first | subst ea_ | (injection ea_ with ea_; subst ea_)); subst ec_; clear en_))
        have GB61 := aM zbd
        have GG61 := aM HG61
        clear zbd gl61 HG61
        obtain ⟨hx61_0, hf61_0⟩ := Kd.R_celln 0 za.out (a1 : Int) p61 q61
        replace p61 := eq_true p61
        replace q61 := eq_true q61
        have HP63 := Kd.R_putn za.out (a1 : Int) (wrap64 ((rd l0_2 a1) * a4))
        rw [← Ny188.out] at HP63
        have HQ63 := aM HP63
        clear HP63
        refine start_ (n := 12) (S := fun w' => w'.cell? ⟨zh, 0, none⟩ = some (.int .i64 zq) ∧ w'.cell? ⟨zh, 1, none⟩ = some (.slice zai z4.length zaj) ∧ w'.cell? ⟨zh, 2, none⟩ = some (.slice (some ⟨go61, 0, none⟩) z3.length zak) ∧ w'.cell? ⟨zu, 0, none⟩ = some (.int .i64 a0_0) ∧ w'.cell? ⟨zu, 1, none⟩ = some (.slice (some ad178) l0_1.length c0_1) ∧ w'.cell? ⟨zu, 2, none⟩ = some (.slice (some ad187) l0_2.length c0_2) ∧ w'.cell? (ad187.add (a1).toNat) = some (.int .i64 (rd l0_2 a1))) (ds := [11]) (bm 12 0) (by kernel_rfl) rfl rfl ⟨(blk_cell zg.out 0).trans rfl, (blk_cell zg.out 1).trans rfl, (blk_cell zg.out 2).trans rfl, (blk_cell zf.out 0).trans rfl, (blk_cell zf.out 1).trans rfl, (blk_cell zf.out 2).trans rfl, ((HB.out.cell (World.block_lt_of_cell? w _ hw187_0)).trans hw187_0)⟩ (fun hHeld => ?_); refine with_tabW view_Slice.tab15 view_Slice.bits15 (fun HT_ HW_ => ?_)
        generalize wc.drew = w62 at zb za zf ze zg HB GG61 HQ63 hf61_0 hx187_0 hx61_0 hHeld ⊢
        refine pP (i := 0) (N := some 83) (bm 12 1) rfl rfl HT_.out ?_
        refine pP (i := 2) (N := some 85) (bm 12 5) rfl rfl HT_.out ?_
        refine pP (i := 3) (N := some 86) (bm 12 13) rfl rfl HT_.out ?_
        refine pP (i := 5) (N := some 88) (bm 12 45) rfl rfl HT_.out ?_
        refine pP (i := 8) (N := some 91) (bm 12 301) rfl rfl HT_.out ?_
        refine pT (i := 1) (N := some 84) (bm 12 303) rfl rfl HT_.out HW_.out hHeld (by rintro w' ⟨s0, s1, s2, s3, s4, s5, s6⟩; go_simp; with_reducible rfl) ?_
        refine pT (i := 4) (N := some 87) (bm 12 319) rfl rfl HT_.out HW_.out hHeld (by rintro w' ⟨s0, s1, s2, s3, s4, s5, s6⟩; go_simp; with_reducible rfl) ?_
        refine pP (i := 6) (N := some 89) (bm 12 383) rfl rfl HT_.out ?_
        refine pT (i := 7) (N := some 90) (bm 12 511) rfl rfl HT_.out HW_.out hHeld (by rintro w' ⟨s0, s1, s2, s3, s4, s5, s6⟩; go_simp; with_reducible rfl) ?_
        refine pP (i := 9) (N := some 92) (bm 12 1023) rfl rfl HT_.out ?_
        refine pP (i := 10) (N := some 93) (bm 12 2047) rfl rfl HT_.out ?_
        refine last_ (i := 11) (N := none) (bm 12 4095) rfl rfl (one_of HT_.out (by kernel_rfl)) (by decide) (fun K hK => ?_)
        refine skip_ (w1 := ?_) (by rfl) rfl ?_ ?_
        rotate_left
        ·go_simp
         rfl
        refine hK.out _ _ ?_
        clear hK K
        refine done_ (done_of HT_.out (by kernel_rfl)) ?_
        try go_wp2
        go_meet
        case rel => exact ⟨_, (0), (z4), (zbb), (.slice zai z4.length zaj), (.slice (some ⟨go61, 0, none⟩) z3.length zak), H', ⟨by have := HJ7.out; have := zar.out; have := HJ42.out; first | omega | exact Nat.le_refl _⟩, ⟨by (with_reducible repeat (first | apply rA | apply rN | apply rD)); exact Kd.R_mono (Kd.R_far (p := ⟨go61, (a1 : Int).toNat, none⟩) (Kd.R_mono zb.out (fun k_ hk => (⟨hk, fun e_ => hk (by rw [e_]; rfl)⟩ : _ ∧ k_ ≠ go61))) (fun _ hk => hk.2) (.int .i64 (wrap64 ((rd l0_2 a1) * a4)))) (fun _ hk => hk.1)⟩, ⟨pR HQ63.out⟩, ⟨by (with_reducible repeat (first | apply bN | apply bD | apply bA)); refine blk_far ?_ (by have h_ := Kd.R_ne za.out zf.out (by decide); intro e_; exact h_ (by rw [e_]; rfl)) _; (with_reducible repeat (first | apply bN | apply bD | apply bA)); exact zf.out⟩, ⟨by (with_reducible repeat (first | apply bN | apply bD | apply bA)); refine blk_far ?_ (by have h_ := Kd.R_ne za.out ze.out (by decide); intro e_; exact h_ (by rw [e_]; rfl)) _; (with_reducible repeat (first | apply bN | apply bD | apply bA)); exact ze.out⟩, ⟨by (with_reducible repeat (first | apply bN | apply bD | apply bA)); refine blk_far ?_ (by have h_ := Kd.R_ne za.out zg.out (by decide); intro e_; exact h_ (by rw [e_]; rfl)) _; (with_reducible repeat (first | apply bN | apply bD | apply bA)); exact zg.out⟩, ⟨qB4 HB GB61 zl zp zx⟩⟩
     case rest =>
      clear HC32
      obtain ⟨kq, zy, zc, zd, u187001, u187002, HA, HJ31, zb, za, zf, ze, zg, HB⟩ := hcut
      cases kq with
      | zero => exact absurd HA.out (by simp [view_Slice.j3])
      | succ kj31 =>
       have H := HA.out
       clear HA
       simp only [view_Slice.j3] at H
       by_cases c64 : a2 > 0
       rotate_left
       ·rw [if_neg c64] at H
        have c64b0 : decide (0 < a2) = false := decide_eq_false c64
        clear c64
        by_cases c98 : 0 ≤ a1
        rotate_left
        ·rw [if_neg c98] at H
         exact absurd H (by simp)
        rw [if_pos c98] at H
        have c98b0 : decide (0 ≤ a1) = true := decide_eq_true c98
        clear c98
        by_cases c99 : a1 < (zc.length : Int)
        rotate_left
        ·rw [if_neg c99] at H
         exact absurd H (by simp)
        rw [if_pos c99] at H
        have c99b0 : decide (a1 < (zc.length : Int)) = true := decide_eq_true c99
        clear c99
        obtain ⟨zaa, zat⟩ : ∃ y_ : List Int, y_ = (zc.set (a1 : Int).toNat a3) := ⟨_, rfl⟩
        replace H : (if a3 = 1 then (if a1 < (zd.length : Int) then (some (zq, zaa, (zd.set (a1 : Int).toNat 0), 0)) else (none)) else (some (zq, zaa, zd, 0))) = some (r1, r2, r3, r4) := pH zat H
        have za1 := aM zat
        clear zat
        by_cases c101 : a3 = 1
        rotate_left
        ·rw [if_neg c101] at H
         have c101b0 : (a3 == 1) = false := beq_eq_false_iff_ne.mpr c101
         have c101b1 : (a3 != 1) = true := bne_iff_ne.mpr c101
         simp only [Option.some.injEq, Prod.mk.injEq] at H
         obtain ⟨rfl, rfl, rfl, rfl⟩ := H
         have hnb115 := zv.out
         have hnc115 := zo.out
         have hnb116 := zs.out
         have hnc116 := zi.out
         obtain ⟨hcz117_0, hcz117_1, hcz117_2, hfz117_0, hfz117_1, hfz117_2⟩ := blk3 zg.out
         have p100 : 0 ≤ (a1 : Int) := of_decide_eq_true pD
         have q100 : (a1 : Int) < ((zc.length : Int) : Int) := of_decide_eq_true pD
         obtain ⟨go100, zz, zae, zaf, gl100, cl100, HG100⟩ := Kd.R_form zb.out (by omega)
         (first | cases zae | (injection zae with ea_ en_ ec_; (first | subst ea_ | (injection ea_ with ea_; subst ea_)); subst ec_; clear en_))
         have GB100 := aM zaf
         have GG100 := aM HG100
         clear zaf gl100 HG100
         obtain ⟨hx100_0, hf100_0⟩ := Kd.R_celln 0 zb.out (a1 : Int) p100 q100
         replace p100 := eq_true p100
         replace q100 := eq_true q100
         have HP118 := Kd.R_putg zb.out (a1 : Int) a3
         go_wp2_with (first | ((with_reducible refine gate_store (t := 3) (p := 111) rfl ?_); refine store_event (t := 3) (p := 111) (v := ?vo_w119) (w1 := (wc.setCell ⟨go100, (a1 : Int).toNat, none⟩ (.int .i64 a3))) ?hg ?ho ?hn ?hr ?_; (case ho => rfl); (case hg => rfl); (case hn => rfl); (case hr => first | (go_simp; done) | (go_simp; rfl)); intro za5 hw; have hg : wc.grownBy za5 (some go100) := (by rw [hw]; exact HP118.2); have hp_ : Kd.R (Kd.int .i64) 3 za5 w.heap.size (fun k_ => some k_ ≠ (u187002 : Value).ownBlock) (.slice (some ⟨go100, 0, none⟩) zc.length zz) zaa := (by rw [hw, za1.out]; exact HP118.1); clear HP118; replace za := aM (Kd.R_after (v := (.slice (some ⟨go100, 0, none⟩) zc.length zz)) (v1 := (.slice (some ⟨go100, 0, none⟩) zc.length zz)) (ok := (fun _ => True)) (by (with_reducible repeat (first | apply rA | apply rN | apply rD)); exact Kd.R_mono za.out (fun _ hk => ⟨trivial, hk⟩)) hg (.inl rfl)); replace zf := aM (blk_grown (g := zu) (pK zf.out) hg (Kd.R_ne zb.out zf.out (by decide))); replace ze := aM (blk_grown (g := zm) (pK ze.out) hg (Kd.R_ne zb.out ze.out (by decide))); replace zg := aM (blk_grown (g := zh) (pK zg.out) hg (Kd.R_ne zb.out zg.out (by decide))); replace zb := aM (hp_); replace HB := aM ((by rw [hw]; exact below_set (HB.out) GB100.out : Below w.heap.size w za5)); clear hg hw hp_; obtain ⟨hcz120_0, hcz120_1, hcz120_2, hfz120_0, hfz120_1, hfz120_2⟩ := blk3 zg.out; have hnb121 := zk.out; have hnc121 := zj.out; obtain ⟨hcz122_0, hcz122_1, hcz122_2, hfz122_0, hfz122_1, hfz122_2⟩ := blk3 ze.out; obtain ⟨Ao123, co123, eo123⟩ := Kd.R_slice za.out; subst eo123))
         refine bodyPost_ret (results_ct rfl _ _ zm 44 #[.int .i64 zq, .slice (some ⟨go100, 0, none⟩) zc.length zz, .slice Ao123 zd.length co123] (0, 0) _ rfl (by exact P3 ze) Try.underlying44 rfl (by kernel_rfl)) rfl ?_
         exact ⟨_, _, pE, by (with_reducible repeat (first | apply rA | apply rN | apply rD)); exact F3 zb ze (fun _ hk => hk.1), by (with_reducible repeat (first | apply rA | apply rN | apply rD)); exact F3 za ze (fun _ hk => hk.1.2), qB3 HB zl zp zx⟩
        rw [if_pos c101] at H
        have c101b0 : (a3 == 1) = true := beq_iff_eq.mpr c101
        have c101b1 : (a3 != 1) = false := bne_eq_false_iff_eq.mpr c101
        clear c101
        by_cases c102 : a1 < (zd.length : Int)
        rotate_left
        ·rw [if_neg c102] at H
         exact absurd H (by simp)
        rw [if_pos c102] at H
        have c102b0 : decide (a1 < (zd.length : Int)) = true := decide_eq_true c102
        clear c102
        obtain ⟨zbe, zau⟩ : ∃ y_ : List Int, y_ = (zd.set (a1 : Int).toNat 0) := ⟨_, rfl⟩
        replace H : (some (zq, zaa, zbe, 0)) = some (r1, r2, r3, r4) := pH zau H
        have Ny193 := aM zau
        clear zau
        simp only [Option.some.injEq, Prod.mk.injEq] at H
        obtain ⟨rfl, rfl, rfl, rfl⟩ := H
        have hnb104 := zv.out
        have hnc104 := zo.out
        have hnb105 := zs.out
        have hnc105 := zi.out
        obtain ⟨hcz106_0, hcz106_1, hcz106_2, hfz106_0, hfz106_1, hfz106_2⟩ := blk3 zg.out
        have p100 : 0 ≤ (a1 : Int) := of_decide_eq_true pD
        have q100 : (a1 : Int) < ((zc.length : Int) : Int) := of_decide_eq_true pD
        obtain ⟨go100, zz, zae, zaf, gl100, cl100, HG100⟩ := Kd.R_form zb.out (by omega)
        (first | cases zae | (injection zae with ea_ en_ ec_; (first | subst ea_ | (injection ea_ with ea_; subst ea_)); subst ec_; clear en_))
        have GB100 := aM zaf
        have GG100 := aM HG100
        clear zaf gl100 HG100
        obtain ⟨hx100_0, hf100_0⟩ := Kd.R_celln 0 zb.out (a1 : Int) p100 q100
        replace p100 := eq_true p100
        replace q100 := eq_true q100
        have HP107 := Kd.R_putg zb.out (a1 : Int) a3
        go_wp2_with (first | ((with_reducible refine gate_store (t := 3) (p := 111) rfl ?_); refine store_event (t := 3) (p := 111) (v := ?vo_w108) (w1 := (wc.setCell ⟨go100, (a1 : Int).toNat, none⟩ (.int .i64 a3))) ?hg ?ho ?hn ?hr ?_; (case ho => rfl); (case hg => rfl); (case hn => rfl); (case hr => first | (go_simp; done) | (go_simp; rfl)); intro zav hw; have hg : wc.grownBy zav (some go100) := (by rw [hw]; exact HP107.2); have hp_ : Kd.R (Kd.int .i64) 3 zav w.heap.size (fun k_ => some k_ ≠ (u187002 : Value).ownBlock) (.slice (some ⟨go100, 0, none⟩) zc.length zz) zaa := (by rw [hw, za1.out]; exact HP107.1); clear HP107; replace za := aM (Kd.R_after (v := (.slice (some ⟨go100, 0, none⟩) zc.length zz)) (v1 := (.slice (some ⟨go100, 0, none⟩) zc.length zz)) (ok := (fun _ => True)) (by (with_reducible repeat (first | apply rA | apply rN | apply rD)); exact Kd.R_mono za.out (fun _ hk => ⟨trivial, hk⟩)) hg (.inl rfl)); replace zf := aM (blk_grown (g := zu) (pK zf.out) hg (Kd.R_ne zb.out zf.out (by decide))); replace ze := aM (blk_grown (g := zm) (pK ze.out) hg (Kd.R_ne zb.out ze.out (by decide))); replace zg := aM (blk_grown (g := zh) (pK zg.out) hg (Kd.R_ne zb.out zg.out (by decide))); replace zb := aM (hp_); replace HB := aM ((by rw [hw]; exact below_set (HB.out) GB100.out : Below w.heap.size w zav)); clear hg hw hp_; obtain ⟨hcz109_0, hcz109_1, hcz109_2, hfz109_0, hfz109_1, hfz109_2⟩ := blk3 zg.out; have p103 : 0 ≤ (a1 : Int) := of_decide_eq_true pD; have q103 : (a1 : Int) < ((zd.length : Int) : Int) := of_decide_eq_true pD; obtain ⟨go103, zah, za2, za3, gl103, cl103, HG103⟩ := Kd.R_form za.out (by omega); (first | cases za2 | (injection za2 with ea_ en_ ec_; (first | subst ea_ | (injection ea_ with ea_; subst ea_)); subst ec_; clear en_)); have GB103 := aM za3; have GG103 := aM HG103; clear za3 gl103 HG103; obtain ⟨hx103_0, hf103_0⟩ := Kd.R_celln 0 za.out (a1 : Int) p103 q103; replace p103 := eq_true p103; replace q103 := eq_true q103; have n_ := aM (Kd.R_mono (ok' := (fun k_ => some k_ ≠ (.slice (some ⟨go100, 0, none⟩) zc.length zz : Value).ownBlock)) za.out (fun k_ hk => hk.2)); clear za; have za := n_; clear n_; obtain ⟨hy110_, hz110_⟩ := Kd.R_celln 0 za.out (a1 : Int) (of_decide_eq_true pD) (of_decide_eq_true pD); have HP110 := Kd.R_putg za.out (a1 : Int) 0) | ((with_reducible refine gate_store (t := 3) (p := 117) rfl ?_); refine store_event (t := 3) (p := 117) (v := ?vo_w111) (w1 := (zav.setCell ⟨go103, (a1 : Int).toNat, none⟩ (.int .i64 0))) ?hg ?ho ?hn ?hr ?_; (case ho => rfl); (case hg => rfl); (case hn => rfl); (case hr => first | (go_simp; done) | (go_simp; rfl)); intro za6 hw; have hg : zav.grownBy za6 (some go103) := (by rw [hw]; exact HP110.2); have hp_ : Kd.R (Kd.int .i64) 3 za6 w.heap.size (fun k_ => some k_ ≠ (.slice (some ⟨go100, 0, none⟩) zc.length zz : Value).ownBlock) (.slice (some ⟨go103, 0, none⟩) zd.length zah) zbe := (by rw [hw, Ny193.out]; exact HP110.1); clear HP110; replace zb := aM (Kd.R_after (v := (.slice (some ⟨go103, 0, none⟩) zd.length zah)) (v1 := (.slice (some ⟨go103, 0, none⟩) zd.length zah)) (ok := (fun _ => True)) (by (with_reducible repeat (first | apply rA | apply rN | apply rD)); exact Kd.R_mono zb.out (fun _ hk => ⟨trivial, hk⟩)) hg (.inl rfl)); replace zf := aM (blk_grown (g := zu) (pK zf.out) hg (Kd.R_ne za.out zf.out (by decide))); replace ze := aM (blk_grown (g := zm) (pK ze.out) hg (Kd.R_ne za.out ze.out (by decide))); replace zg := aM (blk_grown (g := zh) (pK zg.out) hg (Kd.R_ne za.out zg.out (by decide))); replace za := aM (hp_); replace HB := aM ((by rw [hw]; exact below_set (HB.out) GB103.out : Below w.heap.size w za6)); clear hg hw hp_; obtain ⟨hcz112_0, hcz112_1, hcz112_2, hfz112_0, hfz112_1, hfz112_2⟩ := blk3 zg.out; have hnb113 := zk.out; have hnc113 := zj.out; obtain ⟨hcz114_0, hcz114_1, hcz114_2, hfz114_0, hfz114_1, hfz114_2⟩ := blk3 ze.out))
        refine bodyPost_ret (results_ct rfl _ _ zm 44 #[.int .i64 zq, .slice (some ⟨go100, 0, none⟩) zc.length zz, .slice (some ⟨go103, 0, none⟩) zd.length zah] (0, 0) _ rfl (by exact P3 ze) Try.underlying44 rfl (by kernel_rfl)) rfl ?_
        exact ⟨_, _, pE, by (with_reducible repeat (first | apply rA | apply rN | apply rD)); exact F3 zb ze (fun _ hk => hk.1.2), by (with_reducible repeat (first | apply rA | apply rN | apply rD)); exact F3 za ze (fun _ hk => hk.1), qB3 HB zl zp zx⟩
       rw [if_pos c64] at H
       have c64b0 : decide (0 < a2) = true := decide_eq_true c64
       clear c64
       by_cases c65 : 0 ≤ a1
       rotate_left
       ·rw [if_neg c65] at H
        exact absurd H (by simp)
       rw [if_pos c65] at H
       have c65b0 : decide (0 ≤ a1) = true := decide_eq_true c65
       clear c65
       by_cases c66 : a1 < (l0_2.length : Int)
       rotate_left
       ·rw [if_neg c66] at H
        exact absurd H (by simp)
       rw [if_pos c66] at H
       have c66b0 : decide (a1 < (l0_2.length : Int)) = true := decide_eq_true c66
       clear c66
       by_cases c67 : a1 < (zc.length : Int)
       rotate_left
       ·rw [if_neg c67] at H
        exact absurd H (by simp)
       rw [if_pos c67] at H
       have c67b0 : decide (a1 < (zc.length : Int)) = true := decide_eq_true c67
       clear c67
       obtain ⟨z9, zaw⟩ : ∃ y_ : List Int, y_ = (zc.set (a1 : Int).toNat a3) := ⟨_, rfl⟩
       replace H : (if a3 = 1 then (if a1 < (zd.length : Int) then (some (wrap64 (zq + (wrap64 (a2 * (rd l0_2 a1)))), z9, (zd.set (a1 : Int).toNat 0), 0)) else (none)) else (some (wrap64 (zq + (wrap64 (a2 * (rd l0_2 a1)))), z9, zd, 0))) = some (r1, r2, r3, r4) := pH zaw H
       have za4 := aM zaw
       clear zaw
       by_cases c69 : a3 = 1
       rotate_left
       ·rw [if_neg c69] at H
        have c69b0 : (a3 == 1) = false := beq_eq_false_iff_ne.mpr c69
        have c69b1 : (a3 != 1) = true := bne_iff_ne.mpr c69
        simp only [Option.some.injEq, Prod.mk.injEq] at H
        obtain ⟨rfl, rfl, rfl, rfl⟩ := H
        try go_wp2
        replace zb := aM (Kd.R_drew zb.out)
        replace za := aM (Kd.R_drew za.out)
        replace zf := aM (blk_drew zf.out)
        replace ze := aM (blk_drew ze.out)
        replace zg := aM (blk_drew zg.out)
        replace HB := aM (below_drew1 HB.out)
        have p189 : 0 ≤ (a1 : Int) := of_decide_eq_true pD
        have q189 : a1 < (l0_2.length : Int) := of_decide_eq_true pD
        obtain ⟨ad189, e189, hx189_0⟩ := Kd.at_int z7.out a1 p189 q189
        have hw189_0 := hx189_0
        cases e189
        replace hx189_0 := (HB.out.cell (World.block_lt_of_cell? w _ hx189_0)).trans hx189_0
        replace p189 := eq_true p189
        replace q189 := eq_true q189
        refine start_ (n := 12) (S := fun w' => w'.cell? ⟨zh, 0, none⟩ = some (.int .i64 zq) ∧ w'.cell? ⟨zh, 1, none⟩ = some (u187001) ∧ w'.cell? ⟨zh, 2, none⟩ = some (u187002) ∧ w'.cell? ⟨zu, 0, none⟩ = some (.int .i64 a0_0) ∧ w'.cell? ⟨zu, 1, none⟩ = some (.slice (some ad178) l0_1.length c0_1) ∧ w'.cell? ⟨zu, 2, none⟩ = some (.slice (some ad189) l0_2.length c0_2) ∧ w'.cell? (ad189.add (a1).toNat) = some (.int .i64 (rd l0_2 a1))) (ds := [11]) (bm 12 0) (by kernel_rfl) rfl rfl ⟨(blk_cell zg.out 0).trans rfl, (blk_cell zg.out 1).trans rfl, (blk_cell zg.out 2).trans rfl, (blk_cell zf.out 0).trans rfl, (blk_cell zf.out 1).trans rfl, (blk_cell zf.out 2).trans rfl, ((HB.out.cell (World.block_lt_of_cell? w _ hw189_0)).trans hw189_0)⟩ (fun hHeld => ?_); refine with_tabW view_Slice.tab17 view_Slice.bits17 (fun HT_ HW_ => ?_)
        generalize wc.drew = w86 at zb za zf ze zg HB hx189_0 hHeld ⊢
        refine pP (i := 0) (N := some 96) (bm 12 1) rfl rfl HT_.out ?_
        refine pP (i := 2) (N := some 98) (bm 12 5) rfl rfl HT_.out ?_
        refine pP (i := 3) (N := some 99) (bm 12 13) rfl rfl HT_.out ?_
        refine pP (i := 5) (N := some 101) (bm 12 45) rfl rfl HT_.out ?_
        refine pT (i := 1) (N := some 97) (bm 12 47) rfl rfl HT_.out HW_.out hHeld (by rintro w' ⟨s0, s1, s2, s3, s4, s5, s6⟩; go_simp; with_reducible rfl) ?_
        refine pT (i := 4) (N := some 100) (bm 12 63) rfl rfl HT_.out HW_.out hHeld (by rintro w' ⟨s0, s1, s2, s3, s4, s5, s6⟩; go_simp; with_reducible rfl) ?_
        refine pP (i := 6) (N := some 102) (bm 12 127) rfl rfl HT_.out ?_
        refine pT (i := 7) (N := some 103) (bm 12 255) rfl rfl HT_.out HW_.out hHeld (by rintro w' ⟨s0, s1, s2, s3, s4, s5, s6⟩; go_simp; with_reducible rfl) ?_
        refine pP (i := 8) (N := some 104) (bm 12 511) rfl rfl HT_.out ?_
        refine pP (i := 9) (N := some 105) (bm 12 1023) rfl rfl HT_.out ?_
        refine pP (i := 10) (N := some 106) (bm 12 2047) rfl rfl HT_.out ?_
        refine last_ (i := 11) (N := none) (bm 12 4095) rfl rfl (one_of HT_.out (by kernel_rfl)) (by decide) (fun K hK => ?_)
        have hs87 : w86.cell? ⟨zh, 0, none⟩ = some (.int .i64 zq) := (blk_cell zg.out 0).trans rfl
        have hfs87 := blk_frozen zg.out 0
        have hns87_0 := zo.out
        have hns87_1 := zi.out
        have hms87_0 := zv.out
        have hms87_1 := zs.out
        refine skip_ (w1 := ?_) (by rfl) rfl ?_ ?_
        rotate_left
        ·go_simp
         rfl
        refine hK.out _ _ ?_
        clear hK K
        refine done_ (done_of HT_.out (by kernel_rfl)) ?_
        have n0_ : Aside0 (Kd.R (Kd.int .i64) 3 (w86.setCell ⟨zh, 0, none⟩ (.int .i64 (wrap64 (zq + (wrap64 (a2 * (rd l0_2 a1))))))) w.heap.size (fun k_ => some k_ ≠ (u187002 : Value).ownBlock) u187001 zc) := ⟨by (with_reducible repeat (first | apply rA | apply rN | apply rD)); exact Kd.R_mono (Kd.R_far (p := ⟨zh, 0, none⟩) (Kd.R_types zb.out zg.out (by decide)) (fun _ hk => hk.2) (.int .i64 (wrap64 (zq + (wrap64 (a2 * (rd l0_2 a1))))))) (fun _ hk => hk.1)⟩
        have n1_ : Aside0 (Kd.R (Kd.int .i64) 3 (w86.setCell ⟨zh, 0, none⟩ (.int .i64 (wrap64 (zq + (wrap64 (a2 * (rd l0_2 a1))))))) w.heap.size (fun k_ => some k_ ≠ (u187001 : Value).ownBlock) u187002 zd) := ⟨by (with_reducible repeat (first | apply rA | apply rN | apply rD)); exact Kd.R_mono (Kd.R_far (p := ⟨zh, 0, none⟩) (Kd.R_types za.out zg.out (by decide)) (fun _ hk => hk.2) (.int .i64 (wrap64 (zq + (wrap64 (a2 * (rd l0_2 a1))))))) (fun _ hk => hk.1)⟩
        have n2_ : Aside0 ((w86.setCell ⟨zh, 0, none⟩ (.int .i64 (wrap64 (zq + (wrap64 (a2 * (rd l0_2 a1))))))).heap[zu]? = some (.cells #[.int .i64 a0_0, .slice (some ad178) l0_1.length c0_1, .slice (some ad189) l0_2.length c0_2] 44 (0, 0))) := ⟨by (with_reducible repeat (first | apply bN | apply bD | apply bA)); refine blk_far ?_ zo.out _; (with_reducible repeat (first | apply bN | apply bD | apply bA)); exact zf.out⟩
        have n3_ : Aside0 ((w86.setCell ⟨zh, 0, none⟩ (.int .i64 (wrap64 (zq + (wrap64 (a2 * (rd l0_2 a1))))))).heap[zm]? = some (.cells #[.int .i64 zy, .slice none 0 0, .slice none 0 0] 44 (0, 0))) := ⟨by (with_reducible repeat (first | apply bN | apply bD | apply bA)); refine blk_far ?_ zi.out _; (with_reducible repeat (first | apply bN | apply bD | apply bA)); exact ze.out⟩
        have n4_ : Aside0 ((w86.setCell ⟨zh, 0, none⟩ (.int .i64 (wrap64 (zq + (wrap64 (a2 * (rd l0_2 a1))))))).heap[zh]? = some (.cells #[.int .i64 (wrap64 (zq + (wrap64 (a2 * (rd l0_2 a1))))), u187001, u187002] 44 (0, 0))) := ⟨by (with_reducible repeat (first | apply bN | apply bD | apply bA)); refine blk_put (cs := #[.int .i64 zq, u187001, u187002]) ?_ 0 _ rfl; (with_reducible repeat (first | apply bN | apply bD | apply bA)); exact zg.out⟩
        have n5_ : Aside0 (Below w.heap.size w (w86.setCell ⟨zh, 0, none⟩ (.int .i64 (wrap64 (zq + (wrap64 (a2 * (rd l0_2 a1)))))))) := ⟨qB3 HB zl zp zx⟩
        (try clear zb)
        (try clear za)
        (try clear zf)
        (try clear ze)
        (try clear zg)
        (try clear HB)
        generalize (w86.setCell ⟨zh, 0, none⟩ (.int .i64 (wrap64 (zq + (wrap64 (a2 * (rd l0_2 a1))))))) = w88 at n0_ n1_ n2_ n3_ n4_ n5_ ⊢
        have zb := n0_
        have za := n1_
        have zf := n2_
        have ze := n3_
        have zg := n4_
        have HB := n5_
        clear n0_ n1_ n2_ n3_ n4_ n5_
        have hnb89 := zv.out
        have hnc89 := zo.out
        have hnb90 := zs.out
        have hnc90 := zi.out
        obtain ⟨hcz91_0, hcz91_1, hcz91_2, hfz91_0, hfz91_1, hfz91_2⟩ := blk3 zg.out
        have p68 : 0 ≤ (a1 : Int) := of_decide_eq_true pD
        have q68 : (a1 : Int) < ((zc.length : Int) : Int) := of_decide_eq_true pD
        obtain ⟨go68, z2, zax, zay, gl68, cl68, HG68⟩ := Kd.R_form zb.out (by omega)
        (first | cases zax | (injection zax with ea_ en_ ec_; (first | subst ea_ | (injection ea_ with ea_; subst ea_)); subst ec_; clear en_))
        have GB68 := aM zay
        have GG68 := aM HG68
        clear zay gl68 HG68
        obtain ⟨hx68_0, hf68_0⟩ := Kd.R_celln 0 zb.out (a1 : Int) p68 q68
        replace p68 := eq_true p68
        replace q68 := eq_true q68
        obtain ⟨hy92_, hz92_⟩ := Kd.R_celln 0 zb.out (a1 : Int) (of_decide_eq_true pD) (of_decide_eq_true pD)
        have HP92 := Kd.R_putg zb.out (a1 : Int) a3
        try go_wp2_with (first | ((with_reducible refine gate_store (t := 3) (p := 111) rfl ?_); refine store_event (t := 3) (p := 111) (v := ?vo_w93) (w1 := (w88.setCell ⟨go68, (a1 : Int).toNat, none⟩ (.int .i64 a3))) ?hg ?ho ?hn ?hr ?_; (case ho => rfl); (case hg => rfl); (case hn => rfl); (case hr => first | (go_simp; done) | (go_simp; rfl)); intro w93 hw; have hg : w88.grownBy w93 (some go68) := (by rw [hw]; exact HP92.2); have hp_ : Kd.R (Kd.int .i64) 3 w93 w.heap.size (fun k_ => some k_ ≠ (u187002 : Value).ownBlock) (.slice (some ⟨go68, 0, none⟩) zc.length z2) z9 := (by rw [hw, za4.out]; exact HP92.1); clear HP92; replace za := aM (Kd.R_after (v := (.slice (some ⟨go68, 0, none⟩) zc.length z2)) (v1 := (.slice (some ⟨go68, 0, none⟩) zc.length z2)) (ok := (fun _ => True)) (by (with_reducible repeat (first | apply rA | apply rN | apply rD)); exact Kd.R_mono za.out (fun _ hk => ⟨trivial, hk⟩)) hg (.inl rfl)); replace zf := aM (blk_grown (g := zu) (pK zf.out) hg (Kd.R_ne zb.out zf.out (by decide))); replace ze := aM (blk_grown (g := zm) (pK ze.out) hg (Kd.R_ne zb.out ze.out (by decide))); replace zg := aM (blk_grown (g := zh) (pK zg.out) hg (Kd.R_ne zb.out zg.out (by decide))); replace zb := aM (hp_); replace HB := aM ((by rw [hw]; exact below_set (HB.out) GB68.out : Below w.heap.size w w93)); clear hg hw hp_; obtain ⟨hcz94_0, hcz94_1, hcz94_2, hfz94_0, hfz94_1, hfz94_2⟩ := blk3 zg.out; have hnb95 := zk.out; have hnc95 := zj.out; obtain ⟨hcz96_0, hcz96_1, hcz96_2, hfz96_0, hfz96_1, hfz96_2⟩ := blk3 ze.out; obtain ⟨za7, za8, eo97⟩ := Kd.R_slice za.out; subst eo97))
        refine bodyPost_ret (results_ct rfl _ _ zm 44 #[.int .i64 (wrap64 (zq + (wrap64 (a2 * (rd l0_2 a1))))), .slice (some ⟨go68, 0, none⟩) zc.length z2, .slice za7 zd.length za8] (0, 0) _ rfl (by exact P3 ze) Try.underlying44 rfl (by kernel_rfl)) rfl ?_
        exact ⟨_, _, pE, by (with_reducible repeat (first | apply rA | apply rN | apply rD)); exact Kd.R_mono (Kd.R_far (p := ⟨zm, 2, none⟩) (Kd.R_far (p := ⟨zm, 1, none⟩) (Kd.R_far (p := ⟨zm, 0, none⟩) (Kd.R_types zb.out ze.out (by decide)) (fun _ hk => hk.2) (.int .i64 (wrap64 (zq + (wrap64 (a2 * (rd l0_2 a1))))))) (fun _ hk => hk.2) (.slice (some ⟨go68, 0, none⟩) zc.length z2)) (fun _ hk => hk.2) (.slice za7 zd.length za8)) (fun _ hk => hk.1), by (with_reducible repeat (first | apply rA | apply rN | apply rD)); exact Kd.R_mono (Kd.R_far (p := ⟨zm, 2, none⟩) (Kd.R_far (p := ⟨zm, 1, none⟩) (Kd.R_far (p := ⟨zm, 0, none⟩) (Kd.R_types za.out ze.out (by decide)) (fun _ hk => hk.2) (.int .i64 (wrap64 (zq + (wrap64 (a2 * (rd l0_2 a1))))))) (fun _ hk => hk.2) (.slice (some ⟨go68, 0, none⟩) zc.length z2)) (fun _ hk => hk.2) (.slice za7 zd.length za8)) (fun _ hk => hk.1.2), qB3 HB zl zp zx⟩
       rw [if_pos c69] at H
       have c69b0 : (a3 == 1) = true := beq_iff_eq.mpr c69
       have c69b1 : (a3 != 1) = false := bne_eq_false_iff_eq.mpr c69
       clear c69
       by_cases c70 : a1 < (zd.length : Int)
       rotate_left
       ·rw [if_neg c70] at H
        exact absurd H (by simp)
       rw [if_pos c70] at H
       have c70b0 : decide (a1 < (zd.length : Int)) = true := decide_eq_true c70
       clear c70
       obtain ⟨zbf, zaz⟩ : ∃ y_ : List Int, y_ = (zd.set (a1 : Int).toNat 0) := ⟨_, rfl⟩
       replace H : (some (wrap64 (zq + (wrap64 (a2 * (rd l0_2 a1)))), z9, zbf, 0)) = some (r1, r2, r3, r4) := pH zaz H
       have Ny191 := aM zaz
       clear zaz
       simp only [Option.some.injEq, Prod.mk.injEq] at H
       obtain ⟨rfl, rfl, rfl, rfl⟩ := H
       try go_wp2
       replace zb := aM (Kd.R_drew zb.out)
       replace za := aM (Kd.R_drew za.out)
       replace zf := aM (blk_drew zf.out)
       replace ze := aM (blk_drew ze.out)
       replace zg := aM (blk_drew zg.out)
       replace HB := aM (below_drew1 HB.out)
       have p189 : 0 ≤ (a1 : Int) := of_decide_eq_true pD
       have q189 : a1 < (l0_2.length : Int) := of_decide_eq_true pD
       obtain ⟨ad189, e189, hx189_0⟩ := Kd.at_int z7.out a1 p189 q189
       have hw189_0 := hx189_0
       cases e189
       replace hx189_0 := (HB.out.cell (World.block_lt_of_cell? w _ hx189_0)).trans hx189_0
       replace p189 := eq_true p189
       replace q189 := eq_true q189
       refine start_ (n := 12) (S := fun w' => w'.cell? ⟨zh, 0, none⟩ = some (.int .i64 zq) ∧ w'.cell? ⟨zh, 1, none⟩ = some (u187001) ∧ w'.cell? ⟨zh, 2, none⟩ = some (u187002) ∧ w'.cell? ⟨zu, 0, none⟩ = some (.int .i64 a0_0) ∧ w'.cell? ⟨zu, 1, none⟩ = some (.slice (some ad178) l0_1.length c0_1) ∧ w'.cell? ⟨zu, 2, none⟩ = some (.slice (some ad189) l0_2.length c0_2) ∧ w'.cell? (ad189.add (a1).toNat) = some (.int .i64 (rd l0_2 a1))) (ds := [11]) (bm 12 0) (by kernel_rfl) rfl rfl ⟨(blk_cell zg.out 0).trans rfl, (blk_cell zg.out 1).trans rfl, (blk_cell zg.out 2).trans rfl, (blk_cell zf.out 0).trans rfl, (blk_cell zf.out 1).trans rfl, (blk_cell zf.out 2).trans rfl, ((HB.out.cell (World.block_lt_of_cell? w _ hw189_0)).trans hw189_0)⟩ (fun hHeld => ?_); refine with_tabW view_Slice.tab17 view_Slice.bits17 (fun HT_ HW_ => ?_)
       generalize wc.drew = w72 at zb za zf ze zg HB hx189_0 hHeld ⊢
       refine pP (i := 0) (N := some 96) (bm 12 1) rfl rfl HT_.out ?_
       refine pP (i := 2) (N := some 98) (bm 12 5) rfl rfl HT_.out ?_
       refine pP (i := 3) (N := some 99) (bm 12 13) rfl rfl HT_.out ?_
       refine pP (i := 5) (N := some 101) (bm 12 45) rfl rfl HT_.out ?_
       refine pT (i := 1) (N := some 97) (bm 12 47) rfl rfl HT_.out HW_.out hHeld (by rintro w' ⟨s0, s1, s2, s3, s4, s5, s6⟩; go_simp; with_reducible rfl) ?_
       refine pT (i := 4) (N := some 100) (bm 12 63) rfl rfl HT_.out HW_.out hHeld (by rintro w' ⟨s0, s1, s2, s3, s4, s5, s6⟩; go_simp; with_reducible rfl) ?_
       refine pP (i := 6) (N := some 102) (bm 12 127) rfl rfl HT_.out ?_
       refine pT (i := 7) (N := some 103) (bm 12 255) rfl rfl HT_.out HW_.out hHeld (by rintro w' ⟨s0, s1, s2, s3, s4, s5, s6⟩; go_simp; with_reducible rfl) ?_
       refine pP (i := 8) (N := some 104) (bm 12 511) rfl rfl HT_.out ?_
       refine pP (i := 9) (N := some 105) (bm 12 1023) rfl rfl HT_.out ?_
       refine pP (i := 10) (N := some 106) (bm 12 2047) rfl rfl HT_.out ?_
       refine last_ (i := 11) (N := none) (bm 12 4095) rfl rfl (one_of HT_.out (by kernel_rfl)) (by decide) (fun K hK => ?_)
       have hs73 : w72.cell? ⟨zh, 0, none⟩ = some (.int .i64 zq) := (blk_cell zg.out 0).trans rfl
       have hfs73 := blk_frozen zg.out 0
       have hns73_0 := zo.out
       have hns73_1 := zi.out
       have hms73_0 := zv.out
       have hms73_1 := zs.out
       refine skip_ (w1 := ?_) (by rfl) rfl ?_ ?_
       rotate_left
       ·go_simp
        rfl
       refine hK.out _ _ ?_
       clear hK K
       refine done_ (done_of HT_.out (by kernel_rfl)) ?_
       have n0_ : Aside0 (Kd.R (Kd.int .i64) 3 (w72.setCell ⟨zh, 0, none⟩ (.int .i64 (wrap64 (zq + (wrap64 (a2 * (rd l0_2 a1))))))) w.heap.size (fun k_ => some k_ ≠ (u187002 : Value).ownBlock) u187001 zc) := ⟨by (with_reducible repeat (first | apply rA | apply rN | apply rD)); exact Kd.R_mono (Kd.R_far (p := ⟨zh, 0, none⟩) (Kd.R_types zb.out zg.out (by decide)) (fun _ hk => hk.2) (.int .i64 (wrap64 (zq + (wrap64 (a2 * (rd l0_2 a1))))))) (fun _ hk => hk.1)⟩
       have n1_ : Aside0 (Kd.R (Kd.int .i64) 3 (w72.setCell ⟨zh, 0, none⟩ (.int .i64 (wrap64 (zq + (wrap64 (a2 * (rd l0_2 a1))))))) w.heap.size (fun k_ => some k_ ≠ (u187001 : Value).ownBlock) u187002 zd) := ⟨by (with_reducible repeat (first | apply rA | apply rN | apply rD)); exact Kd.R_mono (Kd.R_far (p := ⟨zh, 0, none⟩) (Kd.R_types za.out zg.out (by decide)) (fun _ hk => hk.2) (.int .i64 (wrap64 (zq + (wrap64 (a2 * (rd l0_2 a1))))))) (fun _ hk => hk.1)⟩
       have n2_ : Aside0 ((w72.setCell ⟨zh, 0, none⟩ (.int .i64 (wrap64 (zq + (wrap64 (a2 * (rd l0_2 a1))))))).heap[zu]? = some (.cells #[.int .i64 a0_0, .slice (some ad178) l0_1.length c0_1, .slice (some ad189) l0_2.length c0_2] 44 (0, 0))) := ⟨by (with_reducible repeat (first | apply bN | apply bD | apply bA)); refine blk_far ?_ zo.out _; (with_reducible repeat (first | apply bN | apply bD | apply bA)); exact zf.out⟩
       have n3_ : Aside0 ((w72.setCell ⟨zh, 0, none⟩ (.int .i64 (wrap64 (zq + (wrap64 (a2 * (rd l0_2 a1))))))).heap[zm]? = some (.cells #[.int .i64 zy, .slice none 0 0, .slice none 0 0] 44 (0, 0))) := ⟨by (with_reducible repeat (first | apply bN | apply bD | apply bA)); refine blk_far ?_ zi.out _; (with_reducible repeat (first | apply bN | apply bD | apply bA)); exact ze.out⟩
       have n4_ : Aside0 ((w72.setCell ⟨zh, 0, none⟩ (.int .i64 (wrap64 (zq + (wrap64 (a2 * (rd l0_2 a1))))))).heap[zh]? = some (.cells #[.int .i64 (wrap64 (zq + (wrap64 (a2 * (rd l0_2 a1))))), u187001, u187002] 44 (0, 0))) := ⟨by (with_reducible repeat (first | apply bN | apply bD | apply bA)); refine blk_put (cs := #[.int .i64 zq, u187001, u187002]) ?_ 0 _ rfl; (with_reducible repeat (first | apply bN | apply bD | apply bA)); exact zg.out⟩
       have n5_ : Aside0 (Below w.heap.size w (w72.setCell ⟨zh, 0, none⟩ (.int .i64 (wrap64 (zq + (wrap64 (a2 * (rd l0_2 a1)))))))) := ⟨qB3 HB zl zp zx⟩
       (try clear zb)
       (try clear za)
       (try clear zf)
       (try clear ze)
       (try clear zg)
       (try clear HB)
       generalize (w72.setCell ⟨zh, 0, none⟩ (.int .i64 (wrap64 (zq + (wrap64 (a2 * (rd l0_2 a1))))))) = w74 at n0_ n1_ n2_ n3_ n4_ n5_ ⊢
       have zb := n0_
       have za := n1_
       have zf := n2_
       have ze := n3_
       have zg := n4_
       have HB := n5_
       clear n0_ n1_ n2_ n3_ n4_ n5_
       have hnb75 := zv.out
       have hnc75 := zo.out
       have hnb76 := zs.out
       have hnc76 := zi.out
       obtain ⟨hcz77_0, hcz77_1, hcz77_2, hfz77_0, hfz77_1, hfz77_2⟩ := blk3 zg.out
       have p68 : 0 ≤ (a1 : Int) := of_decide_eq_true pD
       have q68 : (a1 : Int) < ((zc.length : Int) : Int) := of_decide_eq_true pD
       obtain ⟨go68, z2, zax, zay, gl68, cl68, HG68⟩ := Kd.R_form zb.out (by omega)
       (first | cases zax | (injection zax with ea_ en_ ec_; (first | subst ea_ | (injection ea_ with ea_; subst ea_)); subst ec_; clear en_))
       have GB68 := aM zay
       have GG68 := aM HG68
       clear zay gl68 HG68
       obtain ⟨hx68_0, hf68_0⟩ := Kd.R_celln 0 zb.out (a1 : Int) p68 q68
       replace p68 := eq_true p68
       replace q68 := eq_true q68
       obtain ⟨hy78_, hz78_⟩ := Kd.R_celln 0 zb.out (a1 : Int) (of_decide_eq_true pD) (of_decide_eq_true pD)
       have HP78 := Kd.R_putg zb.out (a1 : Int) a3
       try go_wp2_with (first | ((with_reducible refine gate_store (t := 3) (p := 111) rfl ?_); refine store_event (t := 3) (p := 111) (v := ?vo_w79) (w1 := (w74.setCell ⟨go68, (a1 : Int).toNat, none⟩ (.int .i64 a3))) ?hg ?ho ?hn ?hr ?_; (case ho => rfl); (case hg => rfl); (case hn => rfl); (case hr => first | (go_simp; done) | (go_simp; rfl)); intro w79 hw; have hg : w74.grownBy w79 (some go68) := (by rw [hw]; exact HP78.2); have hp_ : Kd.R (Kd.int .i64) 3 w79 w.heap.size (fun k_ => some k_ ≠ (u187002 : Value).ownBlock) (.slice (some ⟨go68, 0, none⟩) zc.length z2) z9 := (by rw [hw, za4.out]; exact HP78.1); clear HP78; replace za := aM (Kd.R_after (v := (.slice (some ⟨go68, 0, none⟩) zc.length z2)) (v1 := (.slice (some ⟨go68, 0, none⟩) zc.length z2)) (ok := (fun _ => True)) (by (with_reducible repeat (first | apply rA | apply rN | apply rD)); exact Kd.R_mono za.out (fun _ hk => ⟨trivial, hk⟩)) hg (.inl rfl)); replace zf := aM (blk_grown (g := zu) (pK zf.out) hg (Kd.R_ne zb.out zf.out (by decide))); replace ze := aM (blk_grown (g := zm) (pK ze.out) hg (Kd.R_ne zb.out ze.out (by decide))); replace zg := aM (blk_grown (g := zh) (pK zg.out) hg (Kd.R_ne zb.out zg.out (by decide))); replace zb := aM (hp_); replace HB := aM ((by rw [hw]; exact below_set (HB.out) GB68.out : Below w.heap.size w w79)); clear hg hw hp_; obtain ⟨hcz80_0, hcz80_1, hcz80_2, hfz80_0, hfz80_1, hfz80_2⟩ := blk3 zg.out; have p71 : 0 ≤ (a1 : Int) := of_decide_eq_true pD; have q71 : (a1 : Int) < ((zd.length : Int) : Int) := of_decide_eq_true pD; obtain ⟨go71, zal, zbg, zbh, gl71, cl71, HG71⟩ := Kd.R_form za.out (by omega); (first | cases zbg | (injection zbg with ea_ en_ ec_; (first | subst ea_ | (injection ea_ with ea_; subst ea_)); subst ec_; clear en_)); have GB71 := aM zbh; have GG71 := aM HG71; clear zbh gl71 HG71; obtain ⟨hx71_0, hf71_0⟩ := Kd.R_celln 0 za.out (a1 : Int) p71 q71; replace p71 := eq_true p71; replace q71 := eq_true q71; have n_ := aM (Kd.R_mono (ok' := (fun k_ => some k_ ≠ (.slice (some ⟨go68, 0, none⟩) zc.length z2 : Value).ownBlock)) za.out (fun k_ hk => hk.2)); clear za; have za := n_; clear n_; obtain ⟨hy81_, hz81_⟩ := Kd.R_celln 0 za.out (a1 : Int) (of_decide_eq_true pD) (of_decide_eq_true pD); have HP81 := Kd.R_putg za.out (a1 : Int) 0) | ((with_reducible refine gate_store (t := 3) (p := 117) rfl ?_); refine store_event (t := 3) (p := 117) (v := ?vo_w82) (w1 := (w79.setCell ⟨go71, (a1 : Int).toNat, none⟩ (.int .i64 0))) ?hg ?ho ?hn ?hr ?_; (case ho => rfl); (case hg => rfl); (case hn => rfl); (case hr => first | (go_simp; done) | (go_simp; rfl)); intro w82 hw; have hg : w79.grownBy w82 (some go71) := (by rw [hw]; exact HP81.2); have hp_ : Kd.R (Kd.int .i64) 3 w82 w.heap.size (fun k_ => some k_ ≠ (.slice (some ⟨go68, 0, none⟩) zc.length z2 : Value).ownBlock) (.slice (some ⟨go71, 0, none⟩) zd.length zal) zbf := (by rw [hw, Ny191.out]; exact HP81.1); clear HP81; replace zb := aM (Kd.R_after (v := (.slice (some ⟨go71, 0, none⟩) zd.length zal)) (v1 := (.slice (some ⟨go71, 0, none⟩) zd.length zal)) (ok := (fun _ => True)) (by (with_reducible repeat (first | apply rA | apply rN | apply rD)); exact Kd.R_mono zb.out (fun _ hk => ⟨trivial, hk⟩)) hg (.inl rfl)); replace zf := aM (blk_grown (g := zu) (pK zf.out) hg (Kd.R_ne za.out zf.out (by decide))); replace ze := aM (blk_grown (g := zm) (pK ze.out) hg (Kd.R_ne za.out ze.out (by decide))); replace zg := aM (blk_grown (g := zh) (pK zg.out) hg (Kd.R_ne za.out zg.out (by decide))); replace za := aM (hp_); replace HB := aM ((by rw [hw]; exact below_set (HB.out) GB71.out : Below w.heap.size w w82)); clear hg hw hp_; obtain ⟨hcz83_0, hcz83_1, hcz83_2, hfz83_0, hfz83_1, hfz83_2⟩ := blk3 zg.out; have hnb84 := zk.out; have hnc84 := zj.out; obtain ⟨hcz85_0, hcz85_1, hcz85_2, hfz85_0, hfz85_1, hfz85_2⟩ := blk3 ze.out))
       refine bodyPost_ret (results_ct rfl _ _ zm 44 #[.int .i64 (wrap64 (zq + (wrap64 (a2 * (rd l0_2 a1))))), .slice (some ⟨go68, 0, none⟩) zc.length z2, .slice (some ⟨go71, 0, none⟩) zd.length zal] (0, 0) _ rfl (by exact P3 ze) Try.underlying44 rfl (by kernel_rfl)) rfl ?_
       exact ⟨_, _, pE, by (with_reducible repeat (first | apply rA | apply rN | apply rD)); exact Kd.R_mono (Kd.R_far (p := ⟨zm, 2, none⟩) (Kd.R_far (p := ⟨zm, 1, none⟩) (Kd.R_far (p := ⟨zm, 0, none⟩) (Kd.R_types zb.out ze.out (by decide)) (fun _ hk => hk.2) (.int .i64 (wrap64 (zq + (wrap64 (a2 * (rd l0_2 a1))))))) (fun _ hk => hk.2) (.slice (some ⟨go68, 0, none⟩) zc.length z2)) (fun _ hk => hk.2) (.slice (some ⟨go71, 0, none⟩) zd.length zal)) (fun _ hk => hk.1.2), by (with_reducible repeat (first | apply rA | apply rN | apply rD)); exact Kd.R_mono (Kd.R_far (p := ⟨zm, 2, none⟩) (Kd.R_far (p := ⟨zm, 1, none⟩) (Kd.R_far (p := ⟨zm, 0, none⟩) (Kd.R_types za.out ze.out (by decide)) (fun _ hk => hk.2) (.int .i64 (wrap64 (zq + (wrap64 (a2 * (rd l0_2 a1))))))) (fun _ hk => hk.2) (.slice (some ⟨go68, 0, none⟩) zc.length z2)) (fun _ hk => hk.2) (.slice (some ⟨go71, 0, none⟩) zd.length zal)) (fun _ hk => hk.1), qB3 HB zl zp zx⟩
def move_View.f (k : Nat) (a0 : Int) (a1_0 : Int) (a1_1 : Int) (a1_2 : Int) (a1_3 : Int) (a1_4 : Int) (a1_5 : Int) (a1_6 : Int) (a1_7 : Int) (a1_8 : Bool) (l1_9 : List Int) (a2_0 : Int) (l2_1 : List Int) (l2_2 : List Int) : Option (Int × List Int × List Int × Int) := if a0 = 33 then ((view_Reshape.f k a2_0 l2_1 l2_2 l1_9).bind fun bt250 => (some (bt250.1, bt250.2.1, bt250.2.2.1, bt250.2.2.2))) else (if a0 = 34 then ((view_Permute.f k a2_0 l2_1 l2_2 l1_9).bind fun bt258 => (some (bt258.1, bt258.2.1, bt258.2.2.1, bt258.2.2.2))) else (if a0 = 35 then ((view_Slice.f k a2_0 l2_1 l2_2 a1_0 a1_1 a1_2 a1_3).bind fun bt266 => (some (bt266.1, bt266.2.1, bt266.2.2.1, bt266.2.2.2))) else (if a0 = 36 then ((view_Expand.f k a2_0 l2_1 l2_2 l1_9).bind fun bt274 => (some (bt274.1, bt274.2.1, bt274.2.2.1, bt274.2.2.2))) else (if a0 = 37 then ((view_Flip.f k a2_0 l2_1 l2_2 a1_0).bind fun bt282 => (some (bt282.1, bt282.2.1, bt282.2.2.1, bt282.2.2.2))) else (some (0, ([] : List Int), ([] : List Int), 14))))))
set_option maxHeartbeats 8000000 in
set_option maxRecDepth 100000 in
theorem move_View.calls (k : Nat) (a0 : Int) (a1_0 : Int) (a1_1 : Int) (a1_2 : Int) (a1_3 : Int) (a1_4 : Int) (a1_5 : Int) (a1_6 : Int) (a1_7 : Int) (a1_8 : Bool) (A1_9 : Option Addr) (c1_9 : Nat) (l1_9 : List Int) (a2_0 : Int) (A2_1 : Option Addr) (c2_1 : Nat) (l2_1 : List Int) (A2_2 : Option Addr) (c2_2 : Nat) (l2_2 : List Int) (r1 : Int) (r2 : List Int) (r3 : List Int) (r4 : Int) (w : World) (hr1_9 : Kd.C (Kd.int .i64) w A1_9 l1_9.length l1_9) (hc1_9 : l1_9.length ≤ c1_9) (hr2_1 : Kd.C (Kd.int .i64) w A2_1 l2_1.length l2_1) (hc2_1 : l2_1.length ≤ c2_1) (hr2_2 : Kd.C (Kd.int .i64) w A2_2 l2_2.length l2_2) (hc2_2 : l2_2.length ≤ c2_2) (h : move_View.f k a0 a1_0 a1_1 a1_2 a1_3 a1_4 a1_5 a1_6 a1_7 a1_8 l1_9 a2_0 l2_1 l2_2 = some (r1, r2, r3, r4)) :
  Calls Try.prog 18 #[.int .i64 a0, .agg #[.int .i64 a1_0, .int .i64 a1_1, .int .i64 a1_2, .int .i64 a1_3, .int .i64 a1_4, .int .i64 a1_5, .int .i64 a1_6, .int .i64 a1_7, .bool a1_8, .slice A1_9 l1_9.length c1_9], .agg #[.int .i64 a2_0, .slice A2_1 l2_1.length c2_1, .slice A2_2 l2_2.length c2_2]] w fun e w' => ∃ v1_ v2_ : Value, e = .returned (.tuple #[.agg #[.int .i64 r1, v1_, v2_], .int .i64 r4]) ∧ Kd.R (Kd.int .i64) 3 w' w.heap.size (fun k_ => some k_ ≠ (v2_ : Value).ownBlock) v1_ r2 ∧ Kd.R (Kd.int .i64) 3 w' w.heap.size (fun k_ => some k_ ≠ (v1_ : Value).ownBlock) v2_ r3 ∧ Below w.heap.size w w' := by
 have hu24 := Try.underlying24
 have hu44 := Try.underlying44
 have zw := aM hr1_9
 have zx := aM hc1_9
 clear hr1_9 hc1_9
 have zq := aM hr2_1
 have zr := aM hc2_1
 clear hr2_1 hc2_1
 have zs := aM hr2_2
 have zt := aM hc2_2
 clear hr2_2 hc2_2
 have HB := aM (Below.refl w.heap.size w)
 have H : (if a0 = 33 then ((view_Reshape.f k a2_0 l2_1 l2_2 l1_9).bind fun bt250 => (some (bt250.1, bt250.2.1, bt250.2.2.1, bt250.2.2.2))) else (if a0 = 34 then ((view_Permute.f k a2_0 l2_1 l2_2 l1_9).bind fun bt258 => (some (bt258.1, bt258.2.1, bt258.2.2.1, bt258.2.2.2))) else (if a0 = 35 then ((view_Slice.f k a2_0 l2_1 l2_2 a1_0 a1_1 a1_2 a1_3).bind fun bt266 => (some (bt266.1, bt266.2.1, bt266.2.2.1, bt266.2.2.2))) else (if a0 = 36 then ((view_Expand.f k a2_0 l2_1 l2_2 l1_9).bind fun bt274 => (some (bt274.1, bt274.2.1, bt274.2.2.1, bt274.2.2.2))) else (if a0 = 37 then ((view_Flip.f k a2_0 l2_1 l2_2 a1_0).bind fun bt282 => (some (bt282.1, bt282.2.1, bt282.2.2.1, bt282.2.2.2))) else (some (0, ([] : List Int), ([] : List Int), 14))))))) = some (r1, r2, r3, r4) := h
 clear h
 by_cases c4 : a0 = 33
 ·rw [if_pos c4] at H
  have c4b0 : (a0 == 33) = true := beq_iff_eq.mpr c4
  have c4b1 : (a0 != 33) = false := bne_eq_false_iff_eq.mpr c4
  clear c4
  replace H := Option.bind_eq_some_iff.mp H
  obtain ⟨⟨z8, z9, zaa, t257⟩, A50, H⟩ := H
  try dsimp only at H
  have A5 := aM A50
  clear A50
  simp only [Option.some.injEq, Prod.mk.injEq] at H
  obtain ⟨rfl, rfl, rfl, rfl⟩ := H
  go_enter Try.func18, Try.ntmps18
  go_wp2_with (first | ((with_reducible refine gate_dst (N := 4) rfl ?_); refine box_event ?hg (N := 4) ?hd (cs := #[.int .i64 a1_0, .int .i64 a1_1, .int .i64 a1_2, .int .i64 a1_3, .int .i64 a1_4, .int .i64 a1_5, .int .i64 a1_6, .int .i64 a1_7, .bool a1_8, .slice A1_9 l1_9.length c1_9]) (t := 24) ?hr ?_; (case hd => rfl); (case hg => rfl); (case hr => first | (go_simp; done) | (go_simp; rfl)); intro zu hg w6 hbox hb; have za := aM (hbox); have zm := gE (w := w) hg (qB HB); have zb := zm; replace HB := bS (qB HB) hb; clear hb hbox hg) | ((with_reducible refine gate_dst (N := 5) rfl ?_); refine box_event ?hg (N := 5) ?hd (cs := #[.int .i64 a2_0, .slice A2_1 l2_1.length c2_1, .slice A2_2 l2_2.length c2_2]) (t := 44) ?hr ?_; (case hd => rfl); (case hg => rfl); (case hr => first | (go_simp; done) | (go_simp; rfl)); intro zv hg w7 hbox hb; have zc := aM (hbox); have zn := gE (w := w) hg (qB1 HB zb); have zd := zn; replace HB := bS (qB1 HB zb) hb; have zk := nL hg za; have zl := nG hg za; replace za := bK za hb; clear hb hbox hg) | ((with_reducible refine gate_dst (N := 6) rfl ?_); refine box_event ?hg (N := 6) ?hd (cs := #[.int .i64 0, .slice none 0 0, .slice none 0 0]) (t := 44) ?hr ?_; (case hd => rfl); (case hg => rfl); (case hr => first | (go_simp; done) | (go_simp; rfl)); intro zo hg w8 hbox hb; have ze := aM (hbox); have zp := gE (w := w) hg (qB2 HB zb zd); have zj := zp; replace HB := bS (qB2 HB zb zd) hb; have zf := nL hg za; have zg := nG hg za; replace za := bK za hb; have zh := nL hg zc; have zi := nG hg zc; replace zc := bK zc hb; clear hb hbox hg; have hnb9 := zl.out; have hnc9 := zk.out; have hnb10 := zh.out; have hnc10 := zi.out; obtain ⟨hcz11_0, hcz11_1, hcz11_2, hfz11_0, hfz11_1, hfz11_2⟩ := blk3 zc.out; have hnb12 := zf.out; have hnc12 := zg.out; obtain ⟨hcz13_0, hcz13_1, hcz13_2, hcz13_3, hcz13_4, hcz13_5, hcz13_6, hcz13_7, hcz13_8, hcz13_9, hfz13_0, hfz13_1, hfz13_2, hfz13_3, hfz13_4, hfz13_5, hfz13_6, hfz13_7, hfz13_8, hfz13_9⟩ := blk10 za.out) | ((with_reducible refine gate_callee (f := 43) rfl ?_); refine goesL_ (some 14) rfl rfl Try.func43 (by kernel_rfl) rfl #[.agg #[.int .i64 a2_0, .slice A2_1 l2_1.length c2_1, .slice A2_2 l2_2.length c2_2], .slice A1_9 l1_9.length c1_9] rfl pA ?_; (with_reducible refine (view_Reshape.calls k a2_0 _ _ l2_1 _ _ l2_2 _ _ l1_9 z8 z9 zaa t257 _ ?s1 ?s2 ?s3 ?s4 ?s5 ?s6 A5.out).mono ?_); (case s1 => exact sC zq HB); (case s2 => exact zr.out); (case s3 => exact sC zs HB); (case s4 => exact zt.out); (case s5 => exact sC zw HB); (case s6 => exact zx.out); rintro e w14 ⟨v252, v255, rfl, ho0, ho1, hb⟩; refine ⟨_, rfl, ?_⟩; have zy := aM (Kd.R_lower ho0 (below_size (qB3 HB zb zd zj))); have zz := aM (Kd.R_lower ho1 (below_size (qB3 HB zb zd zj))); replace za := bK za hb; replace zc := bK zc hb; replace ze := bK ze hb; replace HB := bS (qB3 HB zb zd zj) hb; (try clear hb); (try clear hk); (try clear hi); (try clear ho0); (try clear ho1); obtain ⟨hcz15_0, hcz15_1, hcz15_2, hfz15_0, hfz15_1, hfz15_2⟩ := blk3 ze.out; obtain ⟨Ao16, co16, eo16⟩ := Kd.R_slice zy.out; subst eo16; obtain ⟨Ao17, co17, eo17⟩ := Kd.R_slice zz.out; subst eo17))
  refine bodyPost_ret (results_ct rfl _ _ zo 44 #[.int .i64 z8, .slice Ao16 z9.length co16, .slice Ao17 zaa.length co17] (0, 0) _ rfl (by exact P3 ze) Try.underlying44 rfl (by kernel_rfl)) rfl ?_
  exact ⟨_, _, pE, by (with_reducible repeat (first | apply rA | apply rN | apply rD)); exact F3 zy ze (fun _ hk => hk.1), by (with_reducible repeat (first | apply rA | apply rN | apply rD)); exact F3 zz ze (fun _ hk => hk.1), qB3 HB zb zd zj⟩
 rw [if_neg c4] at H
 have c4b0 : (a0 == 33) = false := beq_eq_false_iff_ne.mpr c4
 have c4b1 : (a0 != 33) = true := bne_iff_ne.mpr c4
 by_cases c18 : a0 = 34
 ·rw [if_pos c18] at H
  have c18b0 : (a0 == 34) = true := beq_iff_eq.mpr c18
  have c18b1 : (a0 != 34) = false := bne_eq_false_iff_eq.mpr c18
  clear c18
  replace H := Option.bind_eq_some_iff.mp H
  obtain ⟨⟨zab, zac, zad, t265⟩, zae, H⟩ := H
  try dsimp only at H
  have A19 := aM zae
  clear zae
  simp only [Option.some.injEq, Prod.mk.injEq] at H
  obtain ⟨rfl, rfl, rfl, rfl⟩ := H
  go_enter Try.func18, Try.ntmps18
  go_wp2_with (first | ((with_reducible refine gate_dst (N := 4) rfl ?_); refine box_event ?hg (N := 4) ?hd (cs := #[.int .i64 a1_0, .int .i64 a1_1, .int .i64 a1_2, .int .i64 a1_3, .int .i64 a1_4, .int .i64 a1_5, .int .i64 a1_6, .int .i64 a1_7, .bool a1_8, .slice A1_9 l1_9.length c1_9]) (t := 24) ?hr ?_; (case hd => rfl); (case hg => rfl); (case hr => first | (go_simp; done) | (go_simp; rfl)); intro zu hg w20 hbox hb; have za := aM (hbox); have zm := gE (w := w) hg (qB HB); have zb := zm; replace HB := bS (qB HB) hb; clear hb hbox hg) | ((with_reducible refine gate_dst (N := 5) rfl ?_); refine box_event ?hg (N := 5) ?hd (cs := #[.int .i64 a2_0, .slice A2_1 l2_1.length c2_1, .slice A2_2 l2_2.length c2_2]) (t := 44) ?hr ?_; (case hd => rfl); (case hg => rfl); (case hr => first | (go_simp; done) | (go_simp; rfl)); intro zv hg w21 hbox hb; have zc := aM (hbox); have zn := gE (w := w) hg (qB1 HB zb); have zd := zn; replace HB := bS (qB1 HB zb) hb; have zk := nL hg za; have zl := nG hg za; replace za := bK za hb; clear hb hbox hg) | ((with_reducible refine gate_dst (N := 6) rfl ?_); refine box_event ?hg (N := 6) ?hd (cs := #[.int .i64 0, .slice none 0 0, .slice none 0 0]) (t := 44) ?hr ?_; (case hd => rfl); (case hg => rfl); (case hr => first | (go_simp; done) | (go_simp; rfl)); intro zo hg w22 hbox hb; have ze := aM (hbox); have zp := gE (w := w) hg (qB2 HB zb zd); have zj := zp; replace HB := bS (qB2 HB zb zd) hb; have zf := nL hg za; have zg := nG hg za; replace za := bK za hb; have zh := nL hg zc; have zi := nG hg zc; replace zc := bK zc hb; clear hb hbox hg; have hnb23 := zl.out; have hnc23 := zk.out; have hnb24 := zh.out; have hnc24 := zi.out; obtain ⟨hcz25_0, hcz25_1, hcz25_2, hfz25_0, hfz25_1, hfz25_2⟩ := blk3 zc.out; have hnb26 := zf.out; have hnc26 := zg.out; obtain ⟨hcz27_0, hcz27_1, hcz27_2, hcz27_3, hcz27_4, hcz27_5, hcz27_6, hcz27_7, hcz27_8, hcz27_9, hfz27_0, hfz27_1, hfz27_2, hfz27_3, hfz27_4, hfz27_5, hfz27_6, hfz27_7, hfz27_8, hfz27_9⟩ := blk10 za.out) | ((with_reducible refine gate_callee (f := 44) rfl ?_); refine goesL_ (some 22) rfl rfl Try.func44 (by kernel_rfl) rfl #[.agg #[.int .i64 a2_0, .slice A2_1 l2_1.length c2_1, .slice A2_2 l2_2.length c2_2], .slice A1_9 l1_9.length c1_9] rfl pA ?_; (with_reducible refine (view_Permute.calls k a2_0 _ _ l2_1 _ _ l2_2 _ _ l1_9 zab zac zad t265 _ ?s1 ?s2 ?s3 ?s4 ?s5 ?s6 A19.out).mono ?_); (case s1 => exact sC zq HB); (case s2 => exact zr.out); (case s3 => exact sC zs HB); (case s4 => exact zt.out); (case s5 => exact sC zw HB); (case s6 => exact zx.out); rintro e w28 ⟨v260, v263, rfl, ho0, ho1, hb⟩; refine ⟨_, rfl, ?_⟩; have z0 := aM (Kd.R_lower ho0 (below_size (qB3 HB zb zd zj))); have z1 := aM (Kd.R_lower ho1 (below_size (qB3 HB zb zd zj))); replace za := bK za hb; replace zc := bK zc hb; replace ze := bK ze hb; replace HB := bS (qB3 HB zb zd zj) hb; (try clear hb); (try clear hk); (try clear hi); (try clear ho0); (try clear ho1); obtain ⟨hcz29_0, hcz29_1, hcz29_2, hfz29_0, hfz29_1, hfz29_2⟩ := blk3 ze.out; obtain ⟨Ao30, co30, eo30⟩ := Kd.R_slice z0.out; subst eo30; obtain ⟨Ao31, co31, eo31⟩ := Kd.R_slice z1.out; subst eo31))
  refine bodyPost_ret (results_ct rfl _ _ zo 44 #[.int .i64 zab, .slice Ao30 zac.length co30, .slice Ao31 zad.length co31] (0, 0) _ rfl (by exact P3 ze) Try.underlying44 rfl (by kernel_rfl)) rfl ?_
  exact ⟨_, _, pE, by (with_reducible repeat (first | apply rA | apply rN | apply rD)); exact F3 z0 ze (fun _ hk => hk.1), by (with_reducible repeat (first | apply rA | apply rN | apply rD)); exact F3 z1 ze (fun _ hk => hk.1), qB3 HB zb zd zj⟩
 rw [if_neg c18] at H
 have c18b0 : (a0 == 34) = false := beq_eq_false_iff_ne.mpr c18
 have c18b1 : (a0 != 34) = true := bne_iff_ne.mpr c18
 by_cases c32 : a0 = 35
 ·rw [if_pos c32] at H
  have c32b0 : (a0 == 35) = true := beq_iff_eq.mpr c32
  have c32b1 : (a0 != 35) = false := bne_eq_false_iff_eq.mpr c32
  clear c32
  replace H := Option.bind_eq_some_iff.mp H
  obtain ⟨⟨zaf, zag, zah, t273⟩, zai, H⟩ := H
  try dsimp only at H
  have A33 := aM zai
  clear zai
  simp only [Option.some.injEq, Prod.mk.injEq] at H
  obtain ⟨rfl, rfl, rfl, rfl⟩ := H
  go_enter Try.func18, Try.ntmps18
  go_wp2_with (first | ((with_reducible refine gate_dst (N := 4) rfl ?_); refine box_event ?hg (N := 4) ?hd (cs := #[.int .i64 a1_0, .int .i64 a1_1, .int .i64 a1_2, .int .i64 a1_3, .int .i64 a1_4, .int .i64 a1_5, .int .i64 a1_6, .int .i64 a1_7, .bool a1_8, .slice A1_9 l1_9.length c1_9]) (t := 24) ?hr ?_; (case hd => rfl); (case hg => rfl); (case hr => first | (go_simp; done) | (go_simp; rfl)); intro zu hg w34 hbox hb; have za := aM (hbox); have zm := gE (w := w) hg (qB HB); have zb := zm; replace HB := bS (qB HB) hb; clear hb hbox hg) | ((with_reducible refine gate_dst (N := 5) rfl ?_); refine box_event ?hg (N := 5) ?hd (cs := #[.int .i64 a2_0, .slice A2_1 l2_1.length c2_1, .slice A2_2 l2_2.length c2_2]) (t := 44) ?hr ?_; (case hd => rfl); (case hg => rfl); (case hr => first | (go_simp; done) | (go_simp; rfl)); intro zv hg w35 hbox hb; have zc := aM (hbox); have zn := gE (w := w) hg (qB1 HB zb); have zd := zn; replace HB := bS (qB1 HB zb) hb; have zk := nL hg za; have zl := nG hg za; replace za := bK za hb; clear hb hbox hg) | ((with_reducible refine gate_dst (N := 6) rfl ?_); refine box_event ?hg (N := 6) ?hd (cs := #[.int .i64 0, .slice none 0 0, .slice none 0 0]) (t := 44) ?hr ?_; (case hd => rfl); (case hg => rfl); (case hr => first | (go_simp; done) | (go_simp; rfl)); intro zo hg w36 hbox hb; have ze := aM (hbox); have zp := gE (w := w) hg (qB2 HB zb zd); have zj := zp; replace HB := bS (qB2 HB zb zd) hb; have zf := nL hg za; have zg := nG hg za; replace za := bK za hb; have zh := nL hg zc; have zi := nG hg zc; replace zc := bK zc hb; clear hb hbox hg; have hnb37 := zl.out; have hnc37 := zk.out; have hnb38 := zh.out; have hnc38 := zi.out; obtain ⟨hcz39_0, hcz39_1, hcz39_2, hfz39_0, hfz39_1, hfz39_2⟩ := blk3 zc.out; have hnb40 := zf.out; have hnc40 := zg.out; obtain ⟨hcz41_0, hcz41_1, hcz41_2, hcz41_3, hcz41_4, hcz41_5, hcz41_6, hcz41_7, hcz41_8, hcz41_9, hfz41_0, hfz41_1, hfz41_2, hfz41_3, hfz41_4, hfz41_5, hfz41_6, hfz41_7, hfz41_8, hfz41_9⟩ := blk10 za.out) | ((with_reducible refine gate_callee (f := 45) rfl ?_); refine goesL_ (some 36) rfl rfl Try.func45 (by kernel_rfl) rfl #[.agg #[.int .i64 a2_0, .slice A2_1 l2_1.length c2_1, .slice A2_2 l2_2.length c2_2], .int .i64 a1_0, .int .i64 a1_1, .int .i64 a1_2, .int .i64 a1_3] rfl pA ?_; (with_reducible refine (view_Slice.calls k a2_0 _ _ l2_1 _ _ l2_2 a1_0 a1_1 a1_2 a1_3 zaf zag zah t273 _ ?s1 ?s2 ?s3 ?s4 A33.out).mono ?_); (case s1 => exact sC zq HB); (case s2 => exact zr.out); (case s3 => exact sC zs HB); (case s4 => exact zt.out); rintro e w42 ⟨v268, v271, rfl, ho0, ho1, hb⟩; refine ⟨_, rfl, ?_⟩; have z2 := aM (Kd.R_lower ho0 (below_size (qB3 HB zb zd zj))); have z3 := aM (Kd.R_lower ho1 (below_size (qB3 HB zb zd zj))); replace za := bK za hb; replace zc := bK zc hb; replace ze := bK ze hb; replace HB := bS (qB3 HB zb zd zj) hb; (try clear hb); (try clear hk); (try clear hi); (try clear ho0); (try clear ho1); obtain ⟨hcz43_0, hcz43_1, hcz43_2, hfz43_0, hfz43_1, hfz43_2⟩ := blk3 ze.out; obtain ⟨Ao44, co44, eo44⟩ := Kd.R_slice z2.out; subst eo44; obtain ⟨Ao45, co45, eo45⟩ := Kd.R_slice z3.out; subst eo45))
  refine bodyPost_ret (results_ct rfl _ _ zo 44 #[.int .i64 zaf, .slice Ao44 zag.length co44, .slice Ao45 zah.length co45] (0, 0) _ rfl (by exact P3 ze) Try.underlying44 rfl (by kernel_rfl)) rfl ?_
  exact ⟨_, _, pE, by (with_reducible repeat (first | apply rA | apply rN | apply rD)); exact F3 z2 ze (fun _ hk => hk.1), by (with_reducible repeat (first | apply rA | apply rN | apply rD)); exact F3 z3 ze (fun _ hk => hk.1), qB3 HB zb zd zj⟩
 rw [if_neg c32] at H
 have c32b0 : (a0 == 35) = false := beq_eq_false_iff_ne.mpr c32
 have c32b1 : (a0 != 35) = true := bne_iff_ne.mpr c32
 by_cases c46 : a0 = 36
 ·rw [if_pos c46] at H
  have c46b0 : (a0 == 36) = true := beq_iff_eq.mpr c46
  have c46b1 : (a0 != 36) = false := bne_eq_false_iff_eq.mpr c46
  clear c46
  replace H := Option.bind_eq_some_iff.mp H
  obtain ⟨⟨zaj, zak, zal, t281⟩, zam, H⟩ := H
  try dsimp only at H
  have A47 := aM zam
  clear zam
  simp only [Option.some.injEq, Prod.mk.injEq] at H
  obtain ⟨rfl, rfl, rfl, rfl⟩ := H
  go_enter Try.func18, Try.ntmps18
  go_wp2_with (first | ((with_reducible refine gate_dst (N := 4) rfl ?_); refine box_event ?hg (N := 4) ?hd (cs := #[.int .i64 a1_0, .int .i64 a1_1, .int .i64 a1_2, .int .i64 a1_3, .int .i64 a1_4, .int .i64 a1_5, .int .i64 a1_6, .int .i64 a1_7, .bool a1_8, .slice A1_9 l1_9.length c1_9]) (t := 24) ?hr ?_; (case hd => rfl); (case hg => rfl); (case hr => first | (go_simp; done) | (go_simp; rfl)); intro zu hg w48 hbox hb; have za := aM (hbox); have zm := gE (w := w) hg (qB HB); have zb := zm; replace HB := bS (qB HB) hb; clear hb hbox hg) | ((with_reducible refine gate_dst (N := 5) rfl ?_); refine box_event ?hg (N := 5) ?hd (cs := #[.int .i64 a2_0, .slice A2_1 l2_1.length c2_1, .slice A2_2 l2_2.length c2_2]) (t := 44) ?hr ?_; (case hd => rfl); (case hg => rfl); (case hr => first | (go_simp; done) | (go_simp; rfl)); intro zv hg w49 hbox hb; have zc := aM (hbox); have zn := gE (w := w) hg (qB1 HB zb); have zd := zn; replace HB := bS (qB1 HB zb) hb; have zk := nL hg za; have zl := nG hg za; replace za := bK za hb; clear hb hbox hg) | ((with_reducible refine gate_dst (N := 6) rfl ?_); refine box_event ?hg (N := 6) ?hd (cs := #[.int .i64 0, .slice none 0 0, .slice none 0 0]) (t := 44) ?hr ?_; (case hd => rfl); (case hg => rfl); (case hr => first | (go_simp; done) | (go_simp; rfl)); intro zo hg w50 hbox hb; have ze := aM (hbox); have zp := gE (w := w) hg (qB2 HB zb zd); have zj := zp; replace HB := bS (qB2 HB zb zd) hb; have zf := nL hg za; have zg := nG hg za; replace za := bK za hb; have zh := nL hg zc; have zi := nG hg zc; replace zc := bK zc hb; clear hb hbox hg; have hnb51 := zl.out; have hnc51 := zk.out; have hnb52 := zh.out; have hnc52 := zi.out; obtain ⟨hcz53_0, hcz53_1, hcz53_2, hfz53_0, hfz53_1, hfz53_2⟩ := blk3 zc.out; have hnb54 := zf.out; have hnc54 := zg.out; obtain ⟨hcz55_0, hcz55_1, hcz55_2, hcz55_3, hcz55_4, hcz55_5, hcz55_6, hcz55_7, hcz55_8, hcz55_9, hfz55_0, hfz55_1, hfz55_2, hfz55_3, hfz55_4, hfz55_5, hfz55_6, hfz55_7, hfz55_8, hfz55_9⟩ := blk10 za.out) | ((with_reducible refine gate_callee (f := 46) rfl ?_); refine goesL_ (some 44) rfl rfl Try.func46 (by kernel_rfl) rfl #[.agg #[.int .i64 a2_0, .slice A2_1 l2_1.length c2_1, .slice A2_2 l2_2.length c2_2], .slice A1_9 l1_9.length c1_9] rfl pA ?_; (with_reducible refine (view_Expand.calls k a2_0 _ _ l2_1 _ _ l2_2 _ _ l1_9 zaj zak zal t281 _ ?s1 ?s2 ?s3 ?s4 ?s5 ?s6 A47.out).mono ?_); (case s1 => exact sC zq HB); (case s2 => exact zr.out); (case s3 => exact sC zs HB); (case s4 => exact zt.out); (case s5 => exact sC zw HB); (case s6 => exact zx.out); rintro e w56 ⟨v276, v279, rfl, ho0, ho1, hb⟩; refine ⟨_, rfl, ?_⟩; have z4 := aM (Kd.R_lower ho0 (below_size (qB3 HB zb zd zj))); have z5 := aM (Kd.R_lower ho1 (below_size (qB3 HB zb zd zj))); replace za := bK za hb; replace zc := bK zc hb; replace ze := bK ze hb; replace HB := bS (qB3 HB zb zd zj) hb; (try clear hb); (try clear hk); (try clear hi); (try clear ho0); (try clear ho1); obtain ⟨hcz57_0, hcz57_1, hcz57_2, hfz57_0, hfz57_1, hfz57_2⟩ := blk3 ze.out; obtain ⟨Ao58, co58, eo58⟩ := Kd.R_slice z4.out; subst eo58; obtain ⟨Ao59, co59, eo59⟩ := Kd.R_slice z5.out; subst eo59))
  refine bodyPost_ret (results_ct rfl _ _ zo 44 #[.int .i64 zaj, .slice Ao58 zak.length co58, .slice Ao59 zal.length co59] (0, 0) _ rfl (by exact P3 ze) Try.underlying44 rfl (by kernel_rfl)) rfl ?_
  exact ⟨_, _, pE, by (with_reducible repeat (first | apply rA | apply rN | apply rD)); exact F3 z4 ze (fun _ hk => hk.1), by (with_reducible repeat (first | apply rA | apply rN | apply rD)); exact F3 z5 ze (fun _ hk => hk.1), qB3 HB zb zd zj⟩
 rw [if_neg c46] at H
 have c46b0 : (a0 == 36) = false := beq_eq_false_iff_ne.mpr c46
 have c46b1 : (a0 != 36) = true := bne_iff_ne.mpr c46
 by_cases c60 : a0 = 37
 rotate_left
 ·rw [if_neg c60] at H
  have c60b0 : (a0 == 37) = false := beq_eq_false_iff_ne.mpr c60
  have c60b1 : (a0 != 37) = true := bne_iff_ne.mpr c60
  simp only [Option.some.injEq, Prod.mk.injEq] at H
  obtain ⟨rfl, rfl, rfl, rfl⟩ := H
  go_enter Try.func18, Try.ntmps18
  go_wp2_with (first | ((with_reducible refine gate_dst (N := 4) rfl ?_); refine box_event ?hg (N := 4) ?hd (cs := #[.int .i64 a1_0, .int .i64 a1_1, .int .i64 a1_2, .int .i64 a1_3, .int .i64 a1_4, .int .i64 a1_5, .int .i64 a1_6, .int .i64 a1_7, .bool a1_8, .slice A1_9 l1_9.length c1_9]) (t := 24) ?hr ?_; (case hd => rfl); (case hg => rfl); (case hr => first | (go_simp; done) | (go_simp; rfl)); intro zu hg w74 hbox hb; have za := aM (hbox); have zm := gE (w := w) hg (qB HB); have zb := zm; replace HB := bS (qB HB) hb; clear hb hbox hg) | ((with_reducible refine gate_dst (N := 5) rfl ?_); refine box_event ?hg (N := 5) ?hd (cs := #[.int .i64 a2_0, .slice A2_1 l2_1.length c2_1, .slice A2_2 l2_2.length c2_2]) (t := 44) ?hr ?_; (case hd => rfl); (case hg => rfl); (case hr => first | (go_simp; done) | (go_simp; rfl)); intro zv hg w75 hbox hb; have zc := aM (hbox); have zn := gE (w := w) hg (qB1 HB zb); have zd := zn; replace HB := bS (qB1 HB zb) hb; have zk := nL hg za; have zl := nG hg za; replace za := bK za hb; clear hb hbox hg) | ((with_reducible refine gate_dst (N := 6) rfl ?_); refine box_event ?hg (N := 6) ?hd (cs := #[.int .i64 0, .slice none 0 0, .slice none 0 0]) (t := 44) ?hr ?_; (case hd => rfl); (case hg => rfl); (case hr => first | (go_simp; done) | (go_simp; rfl)); intro zo hg w76 hbox hb; have ze := aM (hbox); have zp := gE (w := w) hg (qB2 HB zb zd); have zj := zp; replace HB := bS (qB2 HB zb zd) hb; have zf := nL hg za; have zg := nG hg za; replace za := bK za hb; have zh := nL hg zc; have zi := nG hg zc; replace zc := bK zc hb; clear hb hbox hg; have hnb77 := zg.out; have hnc77 := zf.out; have hnb78 := zi.out; have hnc78 := zh.out; obtain ⟨hcz79_0, hcz79_1, hcz79_2, hfz79_0, hfz79_1, hfz79_2⟩ := blk3 ze.out))
  refine bodyPost_ret (results_ct rfl _ _ zo 44 #[.int .i64 0, .slice none 0 0, .slice none 0 0] (0, 0) _ rfl (by exact P3 ze) Try.underlying44 rfl (by kernel_rfl)) rfl ?_
  exact ⟨_, _, pE, pN, pN, qB3 HB zb zd zj⟩
 rw [if_pos c60] at H
 have c60b0 : (a0 == 37) = true := beq_iff_eq.mpr c60
 have c60b1 : (a0 != 37) = false := bne_eq_false_iff_eq.mpr c60
 clear c60
 replace H := Option.bind_eq_some_iff.mp H
 obtain ⟨⟨zan, zao, zap, t289⟩, zaq, H⟩ := H
 try dsimp only at H
 have A61 := aM zaq
 clear zaq
 simp only [Option.some.injEq, Prod.mk.injEq] at H
 obtain ⟨rfl, rfl, rfl, rfl⟩ := H
 go_enter Try.func18, Try.ntmps18
 go_wp2_with (first | ((with_reducible refine gate_dst (N := 4) rfl ?_); refine box_event ?hg (N := 4) ?hd (cs := #[.int .i64 a1_0, .int .i64 a1_1, .int .i64 a1_2, .int .i64 a1_3, .int .i64 a1_4, .int .i64 a1_5, .int .i64 a1_6, .int .i64 a1_7, .bool a1_8, .slice A1_9 l1_9.length c1_9]) (t := 24) ?hr ?_; (case hd => rfl); (case hg => rfl); (case hr => first | (go_simp; done) | (go_simp; rfl)); intro zu hg w62 hbox hb; have za := aM (hbox); have zm := gE (w := w) hg (qB HB); have zb := zm; replace HB := bS (qB HB) hb; clear hb hbox hg) | ((with_reducible refine gate_dst (N := 5) rfl ?_); refine box_event ?hg (N := 5) ?hd (cs := #[.int .i64 a2_0, .slice A2_1 l2_1.length c2_1, .slice A2_2 l2_2.length c2_2]) (t := 44) ?hr ?_; (case hd => rfl); (case hg => rfl); (case hr => first | (go_simp; done) | (go_simp; rfl)); intro zv hg w63 hbox hb; have zc := aM (hbox); have zn := gE (w := w) hg (qB1 HB zb); have zd := zn; replace HB := bS (qB1 HB zb) hb; have zk := nL hg za; have zl := nG hg za; replace za := bK za hb; clear hb hbox hg) | ((with_reducible refine gate_dst (N := 6) rfl ?_); refine box_event ?hg (N := 6) ?hd (cs := #[.int .i64 0, .slice none 0 0, .slice none 0 0]) (t := 44) ?hr ?_; (case hd => rfl); (case hg => rfl); (case hr => first | (go_simp; done) | (go_simp; rfl)); intro zo hg w64 hbox hb; have ze := aM (hbox); have zp := gE (w := w) hg (qB2 HB zb zd); have zj := zp; replace HB := bS (qB2 HB zb zd) hb; have zf := nL hg za; have zg := nG hg za; replace za := bK za hb; have zh := nL hg zc; have zi := nG hg zc; replace zc := bK zc hb; clear hb hbox hg; have hnb65 := zl.out; have hnc65 := zk.out; have hnb66 := zh.out; have hnc66 := zi.out; obtain ⟨hcz67_0, hcz67_1, hcz67_2, hfz67_0, hfz67_1, hfz67_2⟩ := blk3 zc.out; have hnb68 := zf.out; have hnc68 := zg.out; obtain ⟨hcz69_0, hcz69_1, hcz69_2, hcz69_3, hcz69_4, hcz69_5, hcz69_6, hcz69_7, hcz69_8, hcz69_9, hfz69_0, hfz69_1, hfz69_2, hfz69_3, hfz69_4, hfz69_5, hfz69_6, hfz69_7, hfz69_8, hfz69_9⟩ := blk10 za.out) | ((with_reducible refine gate_callee (f := 47) rfl ?_); refine goesL_ (some 52) rfl rfl Try.func47 (by kernel_rfl) rfl #[.agg #[.int .i64 a2_0, .slice A2_1 l2_1.length c2_1, .slice A2_2 l2_2.length c2_2], .int .i64 a1_0] rfl pA ?_; (with_reducible refine (view_Flip.calls k a2_0 _ _ l2_1 _ _ l2_2 a1_0 zan zao zap t289 _ ?s1 ?s2 ?s3 ?s4 A61.out).mono ?_); (case s1 => exact sC zq HB); (case s2 => exact zr.out); (case s3 => exact sC zs HB); (case s4 => exact zt.out); rintro e w70 ⟨v284, v287, rfl, ho0, ho1, hb⟩; refine ⟨_, rfl, ?_⟩; have z6 := aM (Kd.R_lower ho0 (below_size (qB3 HB zb zd zj))); have z7 := aM (Kd.R_lower ho1 (below_size (qB3 HB zb zd zj))); replace za := bK za hb; replace zc := bK zc hb; replace ze := bK ze hb; replace HB := bS (qB3 HB zb zd zj) hb; (try clear hb); (try clear hk); (try clear hi); (try clear ho0); (try clear ho1); obtain ⟨hcz71_0, hcz71_1, hcz71_2, hfz71_0, hfz71_1, hfz71_2⟩ := blk3 ze.out; obtain ⟨Ao72, co72, eo72⟩ := Kd.R_slice z6.out; subst eo72; obtain ⟨Ao73, co73, eo73⟩ := Kd.R_slice z7.out; subst eo73))
 refine bodyPost_ret (results_ct rfl _ _ zo 44 #[.int .i64 zan, .slice Ao72 zao.length co72, .slice Ao73 zap.length co73] (0, 0) _ rfl (by exact P3 ze) Try.underlying44 rfl (by kernel_rfl)) rfl ?_
 exact ⟨_, _, pE, by (with_reducible repeat (first | apply rA | apply rN | apply rD)); exact F3 z6 ze (fun _ hk => hk.1), by (with_reducible repeat (first | apply rA | apply rN | apply rD)); exact F3 z7 ze (fun _ hk => hk.1), qB3 HB zb zd zj⟩
def view_Whole.f (k : Nat) (l0 : List Int) : Option (Int × List Int × List Int) := (shape_Check.f l0).bind fun zc => (if zc = 0 then ((slices_Clone_int_int.f l0).bind fun zf => ((shape_Steps.f k l0).bind fun zg => (some (0, zf, zg)))) else (some (0, ([] : List Int), ([] : List Int))))
set_option maxHeartbeats 8000000 in
set_option maxRecDepth 100000 in
theorem view_Whole.calls (k : Nat) (A0 : Option Addr) (c0 : Nat) (l0 : List Int) (r1 : Int) (r2 : List Int) (r3 : List Int) (w : World) (hr0 : Kd.C (Kd.int .i64) w A0 l0.length l0) (hc0 : l0.length ≤ c0) (h : view_Whole.f k l0 = some (r1, r2, r3)) :
  Calls Try.prog 35 #[.slice A0 l0.length c0] w fun e w' => ∃ v1_ v2_ : Value, e = .returned (.agg #[.int .i64 r1, v1_, v2_]) ∧ Kd.R (Kd.int .i64) 3 w' w.heap.size (fun k_ => some k_ ≠ (v2_ : Value).ownBlock) v1_ r2 ∧ Kd.R (Kd.int .i64) 3 w' w.heap.size (fun k_ => some k_ ≠ (v1_ : Value).ownBlock) v2_ r3 ∧ Below w.heap.size w w' := by
 have hu44 := Try.underlying44
 have HR0 := aM hr0
 have HC0 := aM hc0
 clear hr0 hc0
 have HB := aM (Below.refl w.heap.size w)
 have H : ((shape_Check.f l0).bind fun zc => (if zc = 0 then ((slices_Clone_int_int.f l0).bind fun zf => ((shape_Steps.f k l0).bind fun zg => (some (0, zf, zg)))) else (some (0, ([] : List Int), ([] : List Int))))) = some (r1, r2, r3) := h
 clear h
 replace H := Option.bind_eq_some_iff.mp H
 obtain ⟨zc, A20, H⟩ := H
 try dsimp only at H
 have A2 := aM A20
 clear A20
 by_cases c3 : zc = 0
 rotate_left
 ·rw [if_neg c3] at H
  have c3b0 : (zc == 0) = false := beq_eq_false_iff_ne.mpr c3
  have c3b1 : (zc != 0) = true := bne_iff_ne.mpr c3
  simp only [Option.some.injEq, Prod.mk.injEq] at H
  obtain ⟨rfl, rfl, rfl⟩ := H
  go_enter Try.func35, Try.ntmps35
  go_wp2_with (first | ((with_reducible refine gate_dst (N := 2) rfl ?_); refine box_event ?hg (N := 2) ?hd (cs := #[.int .i64 0, .slice none 0 0, .slice none 0 0]) (t := 44) ?hr ?_; (case hd => rfl); (case hg => rfl); (case hr => first | (go_simp; done) | (go_simp; rfl)); intro zd hg w12 hbox hb; have za := aM (hbox); have zh := gE (w := w) hg (qB HB); have zb := zh; replace HB := bS (qB HB) hb; clear hb hbox hg) | ((with_reducible refine gate_callee (f := 31) rfl ?_); refine goesL_ (some 4) rfl rfl Try.func31 (by kernel_rfl) rfl #[.slice A0 l0.length c0] rfl pA ?_; (with_reducible refine (shape_Check.calls _ _ l0 zc _ ?s1 ?s2 A2.out).mono ?_); (case s1 => exact sC HR0 HB); (case s2 => exact HC0.out); rintro e w' ⟨rfl, ⟨nd, rfl⟩⟩; refine ⟨_, rfl, ?_⟩; (try (rw [drewN_self w12]; generalize hq_ : World.drewN w12 _ = w12; have n0_ : Aside0 (w12.heap[zd]? = some (.cells #[.int .i64 0, .slice none 0 0, .slice none 0 0] 44 (0, 0))) := ⟨by rw [← hq_]; exact (pK za.out)⟩; have n1_ : Aside0 (Below w.heap.size w w12) := ⟨by rw [← hq_]; exact (qB1 HB zb)⟩; clear za HB hq_; have za := n0_; have HB := n1_; clear n0_ n1_)); obtain ⟨hcz13_0, hcz13_1, hcz13_2, hfz13_0, hfz13_1, hfz13_2⟩ := blk3 za.out))
  refine bodyPost_ret (results_cell_row rfl _ _ zd 44 #[.int .i64 0, .slice none 0 0, .slice none 0 0] (0, 0) _ rfl (by exact P3 za) Try.underlying44 rfl (by kernel_rfl)) rfl ?_
  exact ⟨_, _, pE, pN, pN, qB1 HB zb⟩
 rw [if_pos c3] at H
 have c3b0 : (zc == 0) = true := beq_iff_eq.mpr c3
 have c3b1 : (zc != 0) = false := bne_eq_false_iff_eq.mpr c3
 clear c3
 replace H := Option.bind_eq_some_iff.mp H
 obtain ⟨zf, A40, H⟩ := H
 try dsimp only at H
 have A4 := aM A40
 clear A40
 replace H := Option.bind_eq_some_iff.mp H
 obtain ⟨zg, A50, H⟩ := H
 try dsimp only at H
 have A5 := aM A50
 clear A50
 simp only [Option.some.injEq, Prod.mk.injEq] at H
 obtain ⟨rfl, rfl, rfl⟩ := H
 go_enter Try.func35, Try.ntmps35
 go_wp2_with (first | ((with_reducible refine gate_dst (N := 2) rfl ?_); refine box_event ?hg (N := 2) ?hd (cs := #[.int .i64 0, .slice none 0 0, .slice none 0 0]) (t := 44) ?hr ?_; (case hd => rfl); (case hg => rfl); (case hr => first | (go_simp; done) | (go_simp; rfl)); intro zd hg w6 hbox hb; have za := aM (hbox); have zh := gE (w := w) hg (qB HB); have zb := zh; replace HB := bS (qB HB) hb; clear hb hbox hg) | ((with_reducible refine gate_callee (f := 31) rfl ?_); refine goesL_ (some 4) rfl rfl Try.func31 (by kernel_rfl) rfl #[.slice A0 l0.length c0] rfl pA ?_; (with_reducible refine (shape_Check.calls _ _ l0 zc _ ?s1 ?s2 A2.out).mono ?_); (case s1 => exact sC HR0 HB); (case s2 => exact HC0.out); rintro e w' ⟨rfl, ⟨nd, rfl⟩⟩; refine ⟨_, rfl, ?_⟩; (try (rw [drewN_self w6]; generalize hq_ : World.drewN w6 _ = w6; have n0_ : Aside0 (w6.heap[zd]? = some (.cells #[.int .i64 0, .slice none 0 0, .slice none 0 0] 44 (0, 0))) := ⟨by rw [← hq_]; exact (pK za.out)⟩; have n1_ : Aside0 (Below w.heap.size w w6) := ⟨by rw [← hq_]; exact (qB1 HB zb)⟩; clear za HB hq_; have za := n0_; have HB := n1_; clear n0_ n1_))) | ((with_reducible refine gate_callee (f := 42) rfl ?_); refine goesL_ (some 8) rfl rfl Try.func42 (by kernel_rfl) rfl #[.slice A0 l0.length c0] rfl pA ?_; (with_reducible refine (slices_Clone_int_int.calls _ _ l0 zf _ ?s1 ?s2 A4.out).mono ?_); (case s1 => exact sC HR0 HB); (case s2 => exact HC0.out); rintro e w7 ⟨v321, rfl, ho0, hb⟩; refine ⟨_, rfl, ?_⟩; have ze := aM (Kd.R_lower ho0 (below_size (qB1 HB zb))); replace za := bK za hb; replace HB := bS (qB1 HB zb) hb; (try clear hb); (try clear hk); (try clear hi); (try clear ho0)) | ((with_reducible refine gate_callee (f := 62) rfl ?_); refine goesL_ (some 10) rfl rfl Try.func62 (by kernel_rfl) rfl #[.slice A0 l0.length c0] rfl pA ?_; (with_reducible refine (shape_Steps.calls k _ _ l0 zg _ ?s1 ?s2 A5.out).mono ?_); (case s1 => exact sC HR0 HB); (case s2 => exact HC0.out); rintro e w8 ⟨v324, rfl, ho0, hb⟩; refine ⟨_, rfl, ?_⟩; have zi := aM (Kd.R_lower (Kd.R_new' ho0 (Kd.R_lt (pR ze.out))) (below_size (qB1 HB zb))); replace ze := eR ze ho0 hb; replace za := bK za hb; replace HB := bS (qB1 HB zb) hb; (try clear hb); (try clear hk); (try clear hi); (try clear ho0); obtain ⟨Ao9, co9, eo9⟩ := Kd.R_slice zi.out; subst eo9; obtain ⟨Ao10, co10, eo10⟩ := Kd.R_slice ze.out; subst eo10; obtain ⟨hcz11_0, hcz11_1, hcz11_2, hfz11_0, hfz11_1, hfz11_2⟩ := blk3 za.out))
 refine bodyPost_ret (results_cell_row rfl _ _ zd 44 #[.int .i64 0, .slice Ao10 zf.length co10, .slice Ao9 zg.length co9] (0, 0) _ rfl (by exact P3 za) Try.underlying44 rfl (by kernel_rfl)) rfl ?_
 exact ⟨_, _, pE, by (with_reducible repeat (first | apply rA | apply rN | apply rD)); exact F3 ze za (fun _ hk => hk.1.2), by (with_reducible repeat (first | apply rA | apply rN | apply rD)); exact F3 zi za (fun _ hk => hk.1.2), qB1 HB zb⟩
end Go.Proofs.Ytcdiobcldhiemaa.Q
