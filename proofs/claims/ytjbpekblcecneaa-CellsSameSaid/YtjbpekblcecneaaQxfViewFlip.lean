-- By wip/gprint.py (this session's), out of the kit's print.py.
import Derived.Test.YtjbpekblcecneaaQx0
import Derived.Test.YtjbpekblcecneaaQxfLowViewRight
import Derived.Test.YtjbpekblcecneaaQxfViewCopied
namespace Go.Proofs.Ytjbpekblcecneaa.Q
open Go.RowKit Go.Proofs.YtjbpekblcecneaaW.PrintWords Go.Proofs.YtjbpekblcecneaaW.PrintLast Go.Proofs.YtjbpekblcecneaaW.PrintMore
attribute [local go_sem] max2_int min2_int max_two min_two max_three min_three max_four min_four   -- for this text's walks alone
set_option linter.unusedVariables false
set_option linter.unusedSimpArgs false

/-! ### view_Flip: function 19 -/
def view_Flip.j0 : Nat → Int → Bool → Int → List Int → List Int → Option (Int × List Int × List Int × Int)
 | 0, _, _, _, _, _ => none
 | k + 1, x1, x20, x330000, zy, zz => if x20 = true then (some (0, ([] : List Int), ([] : List Int), 10)) else ((view_copied.f x330000 zy zz).bind fun bt332 => (if 0 ≤ x1 then (if x1 < (zy.length : Int) then (if (rd zy x1) > 1 then (if x1 < (zz.length : Int) then (if x1 < (bt332.2.2.length : Int) then (some (wrap64 (bt332.1 + (wrap64 ((wrap64 ((rd zy x1) - 1)) * (rd zz x1)))), bt332.2.1, (bt332.2.2.set (x1 : Int).toNat (wrap64 (-(rd zz x1)))), 0)) else (none)) else (none)) else (some (bt332.1, bt332.2.1, bt332.2.2, 0))) else (none)) else (none)))
def view_Flip.f (k : Nat) (a0_0 : Int) (l0_1 : List Int) (l0_2 : List Int) (a1 : Int) : Option (Int × List Int × List Int × Int) := (view_right.f k a0_0 l0_1 l0_2).bind fun zaa => (if zaa = true then (if a1 < 0 then (view_Flip.j0 k a1 true a0_0 l0_1 l0_2) else (view_Flip.j0 k a1 (decide (a1 ≥ (l0_1.length : Int))) a0_0 l0_1 l0_2)) else (some (0, ([] : List Int), ([] : List Int), 1)))
def view_Flip.T8 : Bool × List (List Nat × List Nat) := (true, [([], []), ([0], [0]), ([], []), ([2], [2]), ([], []), ([4], [4]), ([], []), ([5, 6], [5, 6]), ([7], [7]), ([3, 8], [3, 8]), ([1, 9], [1, 9]), ([0, 1, 2, 3, 4, 5, 6, 7, 8, 9, 10], []), ([11, 10, 0, 1, 2, 3, 4, 5, 6, 7, 8, 9, 10], [10, 11])])
def view_Flip.B8 : List Nat := [0, 1, 0, 4, 0, 16, 0, 112, 240, 508, 1023, 2047, 4095]
theorem view_Flip.tab8 : rtab .any (opsOf Try.f19 8) = view_Flip.T8 := by kernel_rfl
theorem view_Flip.bits8 : waitsOk view_Flip.T8.2 view_Flip.B8 = true := by kernel_rfl
def view_Flip.T9 : Bool × List (List Nat × List Nat) := (true, [([], []), ([0], [0]), ([], []), ([], []), ([3], [3]), ([], []), ([4, 5], [4, 5]), ([6], [6]), ([7], [7]), ([1, 2, 0, 1, 2, 3, 4, 5, 6, 7, 8], [1, 2]), ([9, 8, 0, 1, 2, 3, 4, 5, 6, 7, 8], [8, 9])])
def view_Flip.B9 : List Nat := [0, 1, 0, 0, 8, 0, 56, 120, 248, 511, 1023]
theorem view_Flip.tab9 : rtab .any (opsOf Try.f19 9) = view_Flip.T9 := by kernel_rfl
theorem view_Flip.bits9 : waitsOk view_Flip.T9.2 view_Flip.B9 = true := by kernel_rfl
set_option maxHeartbeats 8000000 in
set_option maxRecDepth 100000 in
theorem view_Flip.calls (k : Nat) (a0_0 : Int) (A0_1 : Option Addr) (c0_1 : Nat) (l0_1 : List Int) (A0_2 : Option Addr) (c0_2 : Nat) (l0_2 : List Int) (a1 : Int) (r1 : Int) (r2 : List Int) (r3 : List Int) (r4 : Int) (w : World) (hr0_1 : Kd.C (Kd.int .i64) w A0_1 l0_1.length l0_1) (hc0_1 : l0_1.length ≤ c0_1) (hr0_2 : Kd.C (Kd.int .i64) w A0_2 l0_2.length l0_2) (hc0_2 : l0_2.length ≤ c0_2) (h : view_Flip.f k a0_0 l0_1 l0_2 a1 = some (r1, r2, r3, r4)) :
  Calls Try.prog 19 #[.agg #[.int .i64 a0_0, .slice A0_1 l0_1.length c0_1, .slice A0_2 l0_2.length c0_2], .int .i64 a1] w fun e w' => ∃ v1_ v2_ : Value, e = .returned (.tuple #[.agg #[.int .i64 r1, v1_, v2_], .int .i64 r4]) ∧ Kd.R (Kd.int .i64) 3 w' w.heap.size (fun k_ => some k_ ≠ (v2_ : Value).ownBlock) v1_ r2 ∧ Kd.R (Kd.int .i64) 3 w' w.heap.size (fun k_ => some k_ ≠ (v1_ : Value).ownBlock) v2_ r3 ∧ Below w.heap.size w w' := by
 have hu24 := Try.underlying24
 have z0 := aM hr0_1
 have z6 := aM hc0_1
 clear hr0_1 hc0_1
 have z1 := aM hr0_2
 have z7 := aM hc0_2
 clear hr0_2 hc0_2
 have HB := aM (Below.refl w.heap.size w)
 have H : ((view_right.f k a0_0 l0_1 l0_2).bind fun zaa => (if zaa = true then (if a1 < 0 then (view_Flip.j0 k a1 true a0_0 l0_1 l0_2) else (view_Flip.j0 k a1 (decide (a1 ≥ (l0_1.length : Int))) a0_0 l0_1 l0_2)) else (some (0, ([] : List Int), ([] : List Int), 1)))) = some (r1, r2, r3, r4) := h
 clear h
 replace H := Option.bind_eq_some_iff.mp H
 obtain ⟨zaa, A30, H⟩ := H
 try dsimp only at H
 have A3 := aM A30
 clear A30
 by_cases c4 : zaa = true
 rotate_left
 ·replace c4 := Bool.eq_false_iff.mpr c4
  subst c4
  rw [if_neg (show ¬ (false = true) by decide)] at H
  simp only [Option.some.injEq, Prod.mk.injEq] at H
  obtain ⟨rfl, rfl, rfl, rfl⟩ := H
  go_enter Try.func19, Try.ntmps19
  go_wp2_with (first | ((with_reducible refine gate_dst (N := 2) rfl ?_); (try (refine gate_guard (by rfl) ?_; dsimp only)); refine box_event ?hg (N := 2) ?hd (cs := #[.int .i64 a0_0, .slice A0_1 l0_1.length c0_1, .slice A0_2 l0_2.length c0_2]) (t := 24) ?hr ?_; (case hd => rfl); (case hg => rfl); (case hr => first | (go_simp; done) | (go_simp; rfl)); intro zt hg w54 hbox hb; have zb := aM (hbox); have zab := gE (w := w) hg (qB HB); have zf := zab; replace HB := bS (qB HB) hb; clear hb hbox hg) | ((with_reducible refine gate_dst (N := 4) rfl ?_); (try (refine gate_guard (by rfl) ?_; dsimp only)); refine box_event ?hg (N := 4) ?hd (cs := #[.int .i64 0, .slice none 0 0, .slice none 0 0]) (t := 24) ?hr ?_; (case hd => rfl); (case hg => rfl); (case hr => first | (go_simp; done) | (go_simp; rfl)); intro zl hg w55 hbox hb; have zc := aM (hbox); have zac := gE (w := w) hg (qB1 HB zf); have zk := zac; replace HB := bS (qB1 HB zf) hb; have zm := nL hg zb; have zn := nG hg zb; replace zb := bK zb hb; clear hb hbox hg; have hnb56 := zm.out; have hnc56 := zn.out; obtain ⟨hcz57_0, hcz57_1, hcz57_2, hfz57_0, hfz57_1, hfz57_2⟩ := blk3 zb.out) | ((with_reducible refine gate_callee (f := 39) rfl ?_); refine goesL_ (some 9) rfl rfl Try.func39 (by kernel_rfl) rfl #[.agg #[.int .i64 a0_0, .slice A0_1 l0_1.length c0_1, .slice A0_2 l0_2.length c0_2]] rfl pA ?_; (with_reducible refine (view_right.calls k a0_0 _ _ l0_1 _ _ l0_2 false _ ?s1 ?s2 ?s3 ?s4 A3.out).mono ?_); (case s1 => exact sC z0 HB); (case s2 => exact z6.out); (case s3 => exact sC z1 HB); (case s4 => exact z7.out); rintro e w58 ⟨rfl, hb⟩; refine ⟨_, rfl, ?_⟩; replace zb := bK zb hb; replace zc := bK zc hb; replace HB := bS (qB2 HB zf zk) hb; (try clear hb); (try clear hk); (try clear hi); obtain ⟨hcz59_0, hcz59_1, hcz59_2, hfz59_0, hfz59_1, hfz59_2⟩ := blk3 zc.out))
  refine bodyPost_ret (results_ct rfl _ _ zl 24 #[.int .i64 0, .slice none 0 0, .slice none 0 0] (0, 0) _ rfl (by exact P3 zc) Try.underlying24 rfl (by kernel_rfl)) rfl ?_
  exact ⟨_, _, pE, pN, pN, qB2 HB zf zk⟩

 subst c4
 rw [if_pos rfl] at H
 have HC5 := aM H
 clear H
 go_enter Try.func19, Try.ntmps19
 go_upto_region 3 with (first | ((with_reducible refine gate_dst (N := 2) rfl ?_); (try (refine gate_guard (by rfl) ?_; dsimp only)); refine box_event ?hg (N := 2) ?hd (cs := #[.int .i64 a0_0, .slice A0_1 l0_1.length c0_1, .slice A0_2 l0_2.length c0_2]) (t := 24) ?hr ?_; (case hd => rfl); (case hg => rfl); (case hr => first | (go_simp; done) | (go_simp; rfl)); intro zt hg w6 hbox hb; have zb := aM (hbox); have zab := gE (w := w) hg (qB HB); have zf := zab; replace HB := bS (qB HB) hb; clear hb hbox hg) | ((with_reducible refine gate_dst (N := 4) rfl ?_); (try (refine gate_guard (by rfl) ?_; dsimp only)); refine box_event ?hg (N := 4) ?hd (cs := #[.int .i64 0, .slice none 0 0, .slice none 0 0]) (t := 24) ?hr ?_; (case hd => rfl); (case hg => rfl); (case hr => first | (go_simp; done) | (go_simp; rfl)); intro zl hg w7 hbox hb; have zc := aM (hbox); have zac := gE (w := w) hg (qB1 HB zf); have zk := zac; replace HB := bS (qB1 HB zf) hb; have zm := nL hg zb; have zn := nG hg zb; replace zb := bK zb hb; clear hb hbox hg; have hnb8 := zm.out; have hnc8 := zn.out; obtain ⟨hcz9_0, hcz9_1, hcz9_2, hfz9_0, hfz9_1, hfz9_2⟩ := blk3 zb.out) | ((with_reducible refine gate_callee (f := 39) rfl ?_); refine goesL_ (some 9) rfl rfl Try.func39 (by kernel_rfl) rfl #[.agg #[.int .i64 a0_0, .slice A0_1 l0_1.length c0_1, .slice A0_2 l0_2.length c0_2]] rfl pA ?_; (with_reducible refine (view_right.calls k a0_0 _ _ l0_1 _ _ l0_2 true _ ?s1 ?s2 ?s3 ?s4 A3.out).mono ?_); (case s1 => exact sC z0 HB); (case s2 => exact z6.out); (case s3 => exact sC z1 HB); (case s4 => exact z7.out); rintro e w10 ⟨rfl, hb⟩; refine ⟨_, rfl, ?_⟩; replace zb := bK zb hb; replace zc := bK zc hb; replace HB := bS (qB2 HB zf zk) hb; (try clear hb); (try clear hk); (try clear hi)))
 (try simp only [Act.put, sP])
 go_cut [20] (fun v20 wc => ∃ (kq : Nat) (x20_4 : Bool), v20 = .bool x20_4 ∧ Aside0 (view_Flip.j0 kq a1 x20_4 a0_0 l0_1 l0_2 = some (r1, r2, r3, r4)) ∧ Aside0 (kq ≤ k) ∧ Aside0 (wc.heap[zt]? = some (.cells #[.int .i64 a0_0, (.slice A0_1 l0_1.length c0_1), (.slice A0_2 l0_2.length c0_2)] 24 (0, 0))) ∧ Aside0 (wc.heap[zl]? = some (.cells #[.int .i64 0, (.slice none 0 0), (.slice none 0 0)] 24 (0, 0))) ∧ Aside0 (Below w.heap.size w wc))
 case first =>
  have H := HC5.out
  clear HC5
  by_cases c11 : a1 < 0
  ·rw [if_pos c11] at H
   have z3 : decide (a1 < 0) = true := decide_eq_true c11
   clear c11
   (first | rw [z3] | (simp only [i64_w, i32_w]; rw [z3]) | skip)
   have H' := aM H
   clear H
   go_wp2
   go_meet
   case rel => exact ⟨_, (true), (pF), H', ⟨by first | omega | exact Nat.le_refl _⟩, ⟨pK zb.out⟩, ⟨pK zc.out⟩, ⟨qB2 HB zf zk⟩⟩
  rw [if_neg c11] at H
  have z3 : decide (a1 < 0) = false := decide_eq_false c11
  clear c11
  (first | rw [z3] | (simp only [i64_w, i32_w]; rw [z3]) | skip)
  have H' := aM H
  clear H
  have hnb12 := zm.out
  have hnc12 := zn.out
  obtain ⟨hcz13_0, hcz13_1, hcz13_2, hfz13_0, hfz13_1, hfz13_2⟩ := blk3 zb.out
  go_wp2
  go_meet
  case rel => exact ⟨_, (decide (a1 ≥ (l0_1.length : Int))), (pF), H', ⟨by first | omega | exact Nat.le_refl _⟩, ⟨pK zb.out⟩, ⟨pK zc.out⟩, ⟨qB2 HB zf zk⟩⟩
 case rest =>
  clear HC5
  try clear c4
  try clear hcz9_0 hcz9_1 hcz9_2 hfz9_0 hfz9_1 hfz9_2
  obtain ⟨kq, x20_4, rfl, HA, HJ4, zb, zc, HB⟩ := hcut
  cases kq with
  | zero => exact absurd HA.out (by simp [view_Flip.j0])
  | succ kj4 =>
   have H := HA.out
   clear HA
   simp only [view_Flip.j0] at H
   by_cases c14 : x20_4 = true
   ·subst c14
    rw [if_pos rfl] at H
    simp only [Option.some.injEq, Prod.mk.injEq] at H
    obtain ⟨rfl, rfl, rfl, rfl⟩ := H
    have hnb15 := zn.out
    have hnc15 := zm.out
    obtain ⟨hcz16_0, hcz16_1, hcz16_2, hfz16_0, hfz16_1, hfz16_2⟩ := blk3 zc.out
    go_wp2
    refine bodyPost_ret (results_ct rfl _ _ zl 24 #[.int .i64 0, .slice none 0 0, .slice none 0 0] (0, 0) _ rfl (by exact P3 zc) Try.underlying24 rfl (by kernel_rfl)) rfl ?_
    exact ⟨_, _, pE, pN, pN, qB2 HB zf zk⟩
   replace c14 := Bool.eq_false_iff.mpr c14
   subst c14
   rw [if_neg (show ¬ (false = true) by decide)] at H
   replace H := Option.bind_eq_some_iff.mp H
   obtain ⟨⟨zg, zj, zh⟩, zae, H⟩ := H
   try dsimp only at H
   have A17 := aM zae
   clear zae
   by_cases c18 : 0 ≤ a1
   rotate_left
   ·rw [if_neg c18] at H
    exact absurd H (by simp)
   rw [if_pos c18] at H
   have c18b0 : decide (0 ≤ a1) = true := decide_eq_true c18
   clear c18
   by_cases c19 : a1 < (l0_1.length : Int)
   rotate_left
   ·rw [if_neg c19] at H
    exact absurd H (by simp)
   rw [if_pos c19] at H
   have c19b0 : decide (a1 < (l0_1.length : Int)) = true := decide_eq_true c19
   clear c19
   by_cases c20 : (rd l0_1 a1) > 1
   rotate_left
   ·rw [if_neg c20] at H
    have c20b0 : decide (1 < (rd l0_1 a1)) = false := decide_eq_false c20
    clear c20
    simp only [Option.some.injEq, Prod.mk.injEq] at H
    obtain ⟨rfl, rfl, rfl, rfl⟩ := H
    have hnb43 := zm.out
    have hnc43 := zn.out
    obtain ⟨hcz44_0, hcz44_1, hcz44_2, hfz44_0, hfz44_1, hfz44_2⟩ := blk3 zb.out
    go_wp2_with (first | ((with_reducible refine gate_callee (f := 45) rfl ?_); refine goesL_ (some 23) rfl rfl Try.func45 (by kernel_rfl) rfl #[.agg #[.int .i64 a0_0, .slice A0_1 l0_1.length c0_1, .slice A0_2 l0_2.length c0_2]] rfl pA ?_; (with_reducible refine (view_copied.calls a0_0 _ _ l0_1 _ _ l0_2 zg zj zh _ ?s1 ?s2 ?s3 ?s4 A17.out).mono ?_); (case s1 => exact sC z0 HB); (case s2 => exact z6.out); (case s3 => exact sC z1 HB); (case s4 => exact z7.out); rintro e w45 ⟨v334, v337, rfl, ho0, ho1, hb⟩; refine ⟨_, rfl, ?_⟩; have zi := aM (Kd.R_lower ho0 (below_size (qB2 HB zf zk))); have ze := aM (Kd.R_lower ho1 (below_size (qB2 HB zf zk))); replace zb := bK zb hb; replace zc := bK zc hb; replace HB := bS (qB2 HB zf zk) hb; (try clear hb); (try clear hk); (try clear hi); (try clear ho0); (try clear ho1)) | ((with_reducible refine gate_dst (N := 6) rfl ?_); (try (refine gate_guard (by rfl) ?_; dsimp only)); refine box_event ?hg (N := 6) ?hd (cs := #[.int .i64 0, .slice none 0 0, .slice none 0 0]) (t := 24) ?hr ?_; (case hd => rfl); (case hg => rfl); (case hr => first | (go_simp; done) | (go_simp; rfl)); intro za hg w46 hbox hb; replace zi := bR zi hb; replace ze := bR ze hb; have zd := aM (hbox); have zx := gE (w := w) hg (qB2 HB zf zk); have z2 := zx; replace HB := bS (qB2 HB zf zk) hb; have zp := nL hg zb; have zu := nG hg zb; replace zb := bK zb hb; have zo := nL hg zc; have zv := nG hg zc; replace zc := bK zc hb; clear hb hbox hg; have hnb47 := zu.out; have hnc47 := zp.out; have hnb48 := zv.out; have hnc48 := zo.out; obtain ⟨hcz49_0, hcz49_1, hcz49_2, hfz49_0, hfz49_1, hfz49_2⟩ := blk3 zd.out; obtain ⟨z4, z5, eo50⟩ := Kd.R_slice zi.out; subst eo50; obtain ⟨z8, z9, eo51⟩ := Kd.R_slice ze.out; subst eo51; obtain ⟨hcz52_0, hcz52_1, hcz52_2, hfz52_0, hfz52_1, hfz52_2⟩ := blk3 zb.out; have p340 : 0 ≤ (a1 : Int) := of_decide_eq_true pD; have q340 : a1 < (l0_1.length : Int) := of_decide_eq_true pD; obtain ⟨ad340, e340, hx340_0⟩ := Kd.at_int z0.out a1 p340 q340; cases e340; have hn340_0 : ad340.block ≠ za := Nat.ne_of_lt (Nat.lt_of_lt_of_le (by have := World.block_lt_of_cell? _ _ hx340_0; first | rwa [add_block] at this | exact this) zx.out); have hn340_1 : ad340.block ≠ za := Nat.ne_of_lt (Nat.lt_of_lt_of_le (by have := World.block_lt_of_cell? _ _ hx340_0; first | rwa [add_block] at this | exact this) zx.out); have hn340_2 : ad340.block ≠ za := Nat.ne_of_lt (Nat.lt_of_lt_of_le (by have := World.block_lt_of_cell? _ _ hx340_0; first | rwa [add_block] at this | exact this) zx.out); replace hx340_0 := (HB.out.cell (World.block_lt_of_cell? w _ hx340_0)).trans hx340_0; replace hx340_0 := (cell_far (p := ⟨za, 0, none⟩) (by first | (rw [add_block]; exact hn340_0) | (show (Addr.add _ _).block ≠ _; rw [add_block]; exact hn340_0) | exact hn340_0) (.int .i64 zg)).trans hx340_0; replace hx340_0 := (cell_far (p := ⟨za, 1, none⟩) (by first | (rw [add_block]; exact hn340_1) | (show (Addr.add _ _).block ≠ _; rw [add_block]; exact hn340_1) | exact hn340_1) (.slice z4 zj.length z5)).trans hx340_0; replace hx340_0 := (cell_far (p := ⟨za, 2, none⟩) (by first | (rw [add_block]; exact hn340_2) | (show (Addr.add _ _).block ≠ _; rw [add_block]; exact hn340_2) | exact hn340_2) (.slice z8 zh.length z9)).trans hx340_0; clear hn340_0; clear hn340_1; clear hn340_2; replace p340 := eq_true p340; replace q340 := eq_true q340; obtain ⟨hcz53_0, hcz53_1, hcz53_2, hfz53_0, hfz53_1, hfz53_2⟩ := blk3 zc.out))
    refine bodyPost_ret (results_ct rfl _ _ zl 24 #[.int .i64 zg, .slice z4 zj.length z5, .slice z8 zh.length z9] (0, 0) _ rfl (by (with_reducible repeat (first | apply bN | apply bD | apply bA)); refine blk_put (cs := #[.int .i64 zg, .slice z4 zj.length z5, .slice none 0 0]) ?_ 2 _ rfl; (with_reducible repeat (first | apply bN | apply bD | apply bA)); refine blk_put (cs := #[.int .i64 zg, .slice none 0 0, .slice none 0 0]) ?_ 1 _ rfl; (with_reducible repeat (first | apply bN | apply bD | apply bA)); refine blk_put (cs := #[.int .i64 0, .slice none 0 0, .slice none 0 0]) ?_ 0 _ rfl; refine B3 zo ?_; exact zc.out) Try.underlying24 rfl (by kernel_rfl)) rfl ?_
    exact ⟨_, _, pE, by (with_reducible repeat (first | apply rA | apply rN | apply rD)); exact Kd.R_mono (Kd.R_far (p := ⟨zl, 2, none⟩) (Kd.R_far (p := ⟨zl, 1, none⟩) (Kd.R_far (p := ⟨zl, 0, none⟩) (Kd.R_far (p := ⟨za, 2, none⟩) (Kd.R_far (p := ⟨za, 1, none⟩) (Kd.R_far (p := ⟨za, 0, none⟩) (Kd.R_types (Kd.R_types zi.out zd.out (by decide)) zc.out (by decide)) (fun _ hk => hk.1.2) (.int .i64 zg)) (fun _ hk => hk.1.2) (.slice z4 zj.length z5)) (fun _ hk => hk.1.2) (.slice z8 zh.length z9)) (fun _ hk => hk.2) (.int .i64 zg)) (fun _ hk => hk.2) (.slice z4 zj.length z5)) (fun _ hk => hk.2) (.slice z8 zh.length z9)) (fun _ hk => hk.1.1), by (with_reducible repeat (first | apply rA | apply rN | apply rD)); exact Kd.R_mono (Kd.R_far (p := ⟨zl, 2, none⟩) (Kd.R_far (p := ⟨zl, 1, none⟩) (Kd.R_far (p := ⟨zl, 0, none⟩) (Kd.R_far (p := ⟨za, 2, none⟩) (Kd.R_far (p := ⟨za, 1, none⟩) (Kd.R_far (p := ⟨za, 0, none⟩) (Kd.R_types (Kd.R_types ze.out zd.out (by decide)) zc.out (by decide)) (fun _ hk => hk.1.2) (.int .i64 zg)) (fun _ hk => hk.1.2) (.slice z4 zj.length z5)) (fun _ hk => hk.1.2) (.slice z8 zh.length z9)) (fun _ hk => hk.2) (.int .i64 zg)) (fun _ hk => hk.2) (.slice z4 zj.length z5)) (fun _ hk => hk.2) (.slice z8 zh.length z9)) (fun _ hk => hk.1.1), qB3 HB zf zk z2⟩
   rw [if_pos c20] at H
   have c20b0 : decide (1 < (rd l0_1 a1)) = true := decide_eq_true c20
   clear c20
   by_cases c21 : a1 < (l0_2.length : Int)
   rotate_left
   ·rw [if_neg c21] at H
    exact absurd H (by simp)
   rw [if_pos c21] at H
   have c21b0 : decide (a1 < (l0_2.length : Int)) = true := decide_eq_true c21
   clear c21
   by_cases c22 : a1 < (zh.length : Int)
   rotate_left
   ·rw [if_neg c22] at H
    exact absurd H (by simp)
   rw [if_pos c22] at H
   have c22b0 : decide (a1 < (zh.length : Int)) = true := decide_eq_true c22
   clear c22
   obtain ⟨zaf, zad⟩ : ∃ y_ : List Int, y_ = (zh.set (a1 : Int).toNat (wrap64 (-(rd l0_2 a1)))) := ⟨_, rfl⟩
   replace H : (some (wrap64 (zg + (wrap64 ((wrap64 ((rd l0_1 a1) - 1)) * (rd l0_2 a1)))), zj, zaf, 0)) = some (r1, r2, r3, r4) := pH zad H
   have Ny343 := aM zad
   clear zad
   simp only [Option.some.injEq, Prod.mk.injEq] at H
   obtain ⟨rfl, rfl, rfl, rfl⟩ := H
   have hnb24 := zm.out
   have hnc24 := zn.out
   obtain ⟨hcz25_0, hcz25_1, hcz25_2, hfz25_0, hfz25_1, hfz25_2⟩ := blk3 zb.out
   try go_wp2_with (first | ((with_reducible refine gate_callee (f := 45) rfl ?_); refine goesL_ (some 23) rfl rfl Try.func45 (by kernel_rfl) rfl #[.agg #[.int .i64 a0_0, .slice A0_1 l0_1.length c0_1, .slice A0_2 l0_2.length c0_2]] rfl pA ?_; (with_reducible refine (view_copied.calls a0_0 _ _ l0_1 _ _ l0_2 zg zj zh _ ?s1 ?s2 ?s3 ?s4 A17.out).mono ?_); (case s1 => exact sC z0 HB); (case s2 => exact z6.out); (case s3 => exact sC z1 HB); (case s4 => exact z7.out); rintro e w26 ⟨v334, v337, rfl, ho0, ho1, hb⟩; refine ⟨_, rfl, ?_⟩; have zi := aM (Kd.R_lower ho0 (below_size (qB2 HB zf zk))); have ze := aM (Kd.R_lower ho1 (below_size (qB2 HB zf zk))); replace zb := bK zb hb; replace zc := bK zc hb; replace HB := bS (qB2 HB zf zk) hb; (try clear hb); (try clear hk); (try clear hi); (try clear ho0); (try clear ho1)) | ((with_reducible refine gate_dst (N := 6) rfl ?_); (try (refine gate_guard (by rfl) ?_; dsimp only)); refine box_event ?hg (N := 6) ?hd (cs := #[.int .i64 0, .slice none 0 0, .slice none 0 0]) (t := 24) ?hr ?_; (case hd => rfl); (case hg => rfl); (case hr => first | (go_simp; done) | (go_simp; rfl)); intro za hg w27 hbox hb; replace zi := bR zi hb; replace ze := bR ze hb; have zd := aM (hbox); have zx := gE (w := w) hg (qB2 HB zf zk); have z2 := zx; replace HB := bS (qB2 HB zf zk) hb; have zp := nL hg zb; have zu := nG hg zb; replace zb := bK zb hb; have zo := nL hg zc; have zv := nG hg zc; replace zc := bK zc hb; clear hb hbox hg; have hnb28 := zu.out; have hnc28 := zp.out; have hnb29 := zv.out; have hnc29 := zo.out; obtain ⟨hcz30_0, hcz30_1, hcz30_2, hfz30_0, hfz30_1, hfz30_2⟩ := blk3 zd.out; obtain ⟨zq, zr, eo31⟩ := Kd.R_slice zi.out; subst eo31; obtain ⟨zw, zs, eo32⟩ := Kd.R_slice ze.out; subst eo32; obtain ⟨hcz33_0, hcz33_1, hcz33_2, hfz33_0, hfz33_1, hfz33_2⟩ := blk3 zb.out; have p340 : 0 ≤ (a1 : Int) := of_decide_eq_true pD; have q340 : a1 < (l0_1.length : Int) := of_decide_eq_true pD; obtain ⟨ad340, e340, hx340_0⟩ := Kd.at_int z0.out a1 p340 q340; cases e340; have hn340_0 : ad340.block ≠ za := Nat.ne_of_lt (Nat.lt_of_lt_of_le (by have := World.block_lt_of_cell? _ _ hx340_0; first | rwa [add_block] at this | exact this) zx.out); have hn340_1 : ad340.block ≠ za := Nat.ne_of_lt (Nat.lt_of_lt_of_le (by have := World.block_lt_of_cell? _ _ hx340_0; first | rwa [add_block] at this | exact this) zx.out); have hn340_2 : ad340.block ≠ za := Nat.ne_of_lt (Nat.lt_of_lt_of_le (by have := World.block_lt_of_cell? _ _ hx340_0; first | rwa [add_block] at this | exact this) zx.out); replace hx340_0 := (HB.out.cell (World.block_lt_of_cell? w _ hx340_0)).trans hx340_0; replace hx340_0 := (cell_far (p := ⟨za, 0, none⟩) (by first | (rw [add_block]; exact hn340_0) | (show (Addr.add _ _).block ≠ _; rw [add_block]; exact hn340_0) | exact hn340_0) (.int .i64 zg)).trans hx340_0; replace hx340_0 := (cell_far (p := ⟨za, 1, none⟩) (by first | (rw [add_block]; exact hn340_1) | (show (Addr.add _ _).block ≠ _; rw [add_block]; exact hn340_1) | exact hn340_1) (.slice zq zj.length zr)).trans hx340_0; replace hx340_0 := (cell_far (p := ⟨za, 2, none⟩) (by first | (rw [add_block]; exact hn340_2) | (show (Addr.add _ _).block ≠ _; rw [add_block]; exact hn340_2) | exact hn340_2) (.slice zw zh.length zs)).trans hx340_0; clear hn340_0; clear hn340_1; clear hn340_2; replace p340 := eq_true p340; replace q340 := eq_true q340))
   have n0_ : Aside0 (Kd.R (Kd.int .i64) 3 (((w27.setCell ⟨za, 0, none⟩ (.int .i64 zg)).setCell ⟨za, 1, none⟩ (.slice zq zj.length zr)).setCell ⟨za, 2, none⟩ (.slice zw zh.length zs)) w.heap.size (fun k_ => some k_ ≠ (.slice zw zh.length zs : Value).ownBlock) (.slice zq zj.length zr) zj) := ⟨by (with_reducible repeat (first | apply rA | apply rN | apply rD)); exact F3 zi zd (fun _ hk => hk.1)⟩
   have n1_ : Aside0 (Kd.R (Kd.int .i64) 3 (((w27.setCell ⟨za, 0, none⟩ (.int .i64 zg)).setCell ⟨za, 1, none⟩ (.slice zq zj.length zr)).setCell ⟨za, 2, none⟩ (.slice zw zh.length zs)) w.heap.size (fun k_ => some k_ ≠ (.slice zq zj.length zr : Value).ownBlock) (.slice zw zh.length zs) zh) := ⟨by (with_reducible repeat (first | apply rA | apply rN | apply rD)); exact F3 ze zd (fun _ hk => hk.1)⟩
   have n2_ : Aside0 ((((w27.setCell ⟨za, 0, none⟩ (.int .i64 zg)).setCell ⟨za, 1, none⟩ (.slice zq zj.length zr)).setCell ⟨za, 2, none⟩ (.slice zw zh.length zs)).heap[zt]? = some (.cells #[.int .i64 a0_0, .slice (some ad340) l0_1.length c0_1, .slice A0_2 l0_2.length c0_2] 24 (0, 0))) := ⟨by refine B3 zp ?_; exact zb.out⟩
   have n3_ : Aside0 ((((w27.setCell ⟨za, 0, none⟩ (.int .i64 zg)).setCell ⟨za, 1, none⟩ (.slice zq zj.length zr)).setCell ⟨za, 2, none⟩ (.slice zw zh.length zs)).heap[zl]? = some (.cells #[.int .i64 0, .slice none 0 0, .slice none 0 0] 24 (0, 0))) := ⟨by refine B3 zo ?_; exact zc.out⟩
   have n4_ : Aside0 ((((w27.setCell ⟨za, 0, none⟩ (.int .i64 zg)).setCell ⟨za, 1, none⟩ (.slice zq zj.length zr)).setCell ⟨za, 2, none⟩ (.slice zw zh.length zs)).heap[za]? = some (.cells #[.int .i64 zg, .slice zq zj.length zr, .slice zw zh.length zs] 24 (0, 0))) := ⟨by exact P3 zd⟩
   have n5_ : Aside0 (Below w.heap.size w (((w27.setCell ⟨za, 0, none⟩ (.int .i64 zg)).setCell ⟨za, 1, none⟩ (.slice zq zj.length zr)).setCell ⟨za, 2, none⟩ (.slice zw zh.length zs))) := ⟨qB3 HB zf zk z2⟩
   (try clear zi)
   (try clear ze)
   (try clear zb)
   (try clear zc)
   (try clear zd)
   (try clear HB)
   generalize (((w27.setCell ⟨za, 0, none⟩ (.int .i64 zg)).setCell ⟨za, 1, none⟩ (.slice zq zj.length zr)).setCell ⟨za, 2, none⟩ (.slice zw zh.length zs)) = w34 at n0_ n1_ n2_ n3_ n4_ n5_ ⊢
   have zi := n0_
   have ze := n1_
   have zb := n2_
   have zc := n3_
   have zd := n4_
   have HB := n5_
   clear n0_ n1_ n2_ n3_ n4_ n5_
   replace zi := aM (Kd.R_drew zi.out)
   replace ze := aM (Kd.R_drew ze.out)
   replace zb := aM (blk_drew zb.out)
   replace zc := aM (blk_drew zc.out)
   replace zd := aM (blk_drew zd.out)
   replace HB := aM (below_drew1 HB.out)
   have p341 : 0 ≤ (a1 : Int) := of_decide_eq_true pD
   have q341 : a1 < (l0_2.length : Int) := of_decide_eq_true pD
   obtain ⟨ad341, e341, hx341_0⟩ := Kd.at_int z1.out a1 p341 q341
   have hw341_0 := hx341_0
   cases e341
   replace hx341_0 := (HB.out.cell (World.block_lt_of_cell? w _ hx341_0)).trans hx341_0
   replace p341 := eq_true p341
   replace q341 := eq_true q341
   refine start_ (n := 13) (S := fun w' => w'.cell? ⟨za, 0, none⟩ = some (.int .i64 zg) ∧ w'.cell? ⟨za, 1, none⟩ = some (.slice zq zj.length zr) ∧ w'.cell? ⟨za, 2, none⟩ = some (.slice zw zh.length zs) ∧ w'.cell? ⟨zt, 0, none⟩ = some (.int .i64 a0_0) ∧ w'.cell? ⟨zt, 1, none⟩ = some (.slice (some ad340) l0_1.length c0_1) ∧ w'.cell? ⟨zt, 2, none⟩ = some (.slice (some ad341) l0_2.length c0_2) ∧ w'.cell? (ad341.add (a1).toNat) = some (.int .i64 (rd l0_2 a1))) (ds := [12]) (bm 13 0) (by kernel_rfl) rfl rfl ⟨(blk_cell zd.out 0).trans rfl, (blk_cell zd.out 1).trans rfl, (blk_cell zd.out 2).trans rfl, (blk_cell zb.out 0).trans rfl, (blk_cell zb.out 1).trans rfl, (blk_cell zb.out 2).trans rfl, ((HB.out.cell (World.block_lt_of_cell? w _ hw341_0)).trans hw341_0)⟩ (fun hHeld => ?_); refine with_tabW view_Flip.tab8 view_Flip.bits8 (fun HT_ HW_ => ?_)
   generalize w34.drew = w35 at zi ze zb zc zd HB hx341_0 hHeld ⊢
   refine pP (i := 0) (N := some 31) (bm 13 1) rfl rfl HT_.out ?_
   refine pP (i := 2) (N := some 33) (bm 13 5) rfl rfl HT_.out ?_
   refine pP (i := 3) (N := some 34) (bm 13 13) rfl rfl HT_.out ?_
   refine pP (i := 4) (N := some 35) (bm 13 29) rfl rfl HT_.out ?_
   refine pP (i := 6) (N := some 37) (bm 13 93) rfl rfl HT_.out ?_
   refine pT (i := 1) (N := some 32) (bm 13 95) rfl rfl HT_.out HW_.out hHeld (by rintro w' ⟨s0, s1, s2, s3, s4, s5, s6⟩; go_simp; with_reducible rfl) ?_
   refine pT (i := 5) (N := some 36) (bm 13 127) rfl rfl HT_.out HW_.out hHeld (by rintro w' ⟨s0, s1, s2, s3, s4, s5, s6⟩; go_simp; with_reducible rfl) ?_
   refine pP (i := 7) (N := some 38) (bm 13 255) rfl rfl HT_.out ?_
   refine pT (i := 8) (N := some 39) (bm 13 511) rfl rfl HT_.out HW_.out hHeld (by rintro w' ⟨s0, s1, s2, s3, s4, s5, s6⟩; go_simp; with_reducible rfl) ?_
   refine pP (i := 9) (N := some 40) (bm 13 1023) rfl rfl HT_.out ?_
   refine pP (i := 10) (N := some 41) (bm 13 2047) rfl rfl HT_.out ?_
   refine pP (i := 11) (N := some 42) (bm 13 4095) rfl rfl HT_.out ?_
   refine last_ (i := 12) (N := none) (bm 13 8191) rfl rfl (one_of HT_.out (by kernel_rfl)) (by decide) (fun K hK => ?_)
   have hs36 : w35.cell? ⟨za, 0, none⟩ = some (.int .i64 zg) := (blk_cell zd.out 0).trans rfl
   have hfs36 := blk_frozen zd.out 0
   have hns36_0 := zp.out
   have hns36_1 := zo.out
   have hms36_0 := zu.out
   have hms36_1 := zv.out
   refine skip_ (w1 := ?_) (by rfl) rfl ?_ ?_
   rotate_left
   ·go_simp
    rfl
   refine hK.out _ _ ?_
   clear hK K
   refine done_ (done_of HT_.out (by kernel_rfl)) ?_
   try go_wp2
   have n0_ : Aside0 (Kd.R (Kd.int .i64) 3 (w35.setCell ⟨za, 0, none⟩ (.int .i64 (wrap64 (zg + (wrap64 ((wrap64 ((rd l0_1 a1) - 1)) * (rd l0_2 a1))))))) w.heap.size (fun k_ => some k_ ≠ (.slice zw zh.length zs : Value).ownBlock) (.slice zq zj.length zr) zj) := ⟨by (with_reducible repeat (first | apply rA | apply rN | apply rD)); exact Kd.R_mono (Kd.R_far (p := ⟨za, 0, none⟩) (Kd.R_types zi.out zd.out (by decide)) (fun _ hk => hk.2) (.int .i64 (wrap64 (zg + (wrap64 ((wrap64 ((rd l0_1 a1) - 1)) * (rd l0_2 a1))))))) (fun _ hk => hk.1)⟩
   have n1_ : Aside0 (Kd.R (Kd.int .i64) 3 (w35.setCell ⟨za, 0, none⟩ (.int .i64 (wrap64 (zg + (wrap64 ((wrap64 ((rd l0_1 a1) - 1)) * (rd l0_2 a1))))))) w.heap.size (fun k_ => some k_ ≠ (.slice zq zj.length zr : Value).ownBlock) (.slice zw zh.length zs) zh) := ⟨by (with_reducible repeat (first | apply rA | apply rN | apply rD)); exact Kd.R_mono (Kd.R_far (p := ⟨za, 0, none⟩) (Kd.R_types ze.out zd.out (by decide)) (fun _ hk => hk.2) (.int .i64 (wrap64 (zg + (wrap64 ((wrap64 ((rd l0_1 a1) - 1)) * (rd l0_2 a1))))))) (fun _ hk => hk.1)⟩
   have n2_ : Aside0 ((w35.setCell ⟨za, 0, none⟩ (.int .i64 (wrap64 (zg + (wrap64 ((wrap64 ((rd l0_1 a1) - 1)) * (rd l0_2 a1))))))).heap[zt]? = some (.cells #[.int .i64 a0_0, .slice (some ad340) l0_1.length c0_1, .slice (some ad341) l0_2.length c0_2] 24 (0, 0))) := ⟨by (with_reducible repeat (first | apply bN | apply bD | apply bA)); refine blk_far ?_ zp.out _; (with_reducible repeat (first | apply bN | apply bD | apply bA)); exact zb.out⟩
   have n3_ : Aside0 ((w35.setCell ⟨za, 0, none⟩ (.int .i64 (wrap64 (zg + (wrap64 ((wrap64 ((rd l0_1 a1) - 1)) * (rd l0_2 a1))))))).heap[zl]? = some (.cells #[.int .i64 0, .slice none 0 0, .slice none 0 0] 24 (0, 0))) := ⟨by (with_reducible repeat (first | apply bN | apply bD | apply bA)); refine blk_far ?_ zo.out _; (with_reducible repeat (first | apply bN | apply bD | apply bA)); exact zc.out⟩
   have n4_ : Aside0 ((w35.setCell ⟨za, 0, none⟩ (.int .i64 (wrap64 (zg + (wrap64 ((wrap64 ((rd l0_1 a1) - 1)) * (rd l0_2 a1))))))).heap[za]? = some (.cells #[.int .i64 (wrap64 (zg + (wrap64 ((wrap64 ((rd l0_1 a1) - 1)) * (rd l0_2 a1))))), .slice zq zj.length zr, .slice zw zh.length zs] 24 (0, 0))) := ⟨by (with_reducible repeat (first | apply bN | apply bD | apply bA)); refine blk_put (cs := #[.int .i64 zg, .slice zq zj.length zr, .slice zw zh.length zs]) ?_ 0 _ rfl; (with_reducible repeat (first | apply bN | apply bD | apply bA)); exact zd.out⟩
   have n5_ : Aside0 (Below w.heap.size w (w35.setCell ⟨za, 0, none⟩ (.int .i64 (wrap64 (zg + (wrap64 ((wrap64 ((rd l0_1 a1) - 1)) * (rd l0_2 a1)))))))) := ⟨qB3 HB zf zk z2⟩
   (try clear zi)
   (try clear ze)
   (try clear zb)
   (try clear zc)
   (try clear zd)
   (try clear HB)
   generalize (w35.setCell ⟨za, 0, none⟩ (.int .i64 (wrap64 (zg + (wrap64 ((wrap64 ((rd l0_1 a1) - 1)) * (rd l0_2 a1))))))) = w37 at n0_ n1_ n2_ n3_ n4_ n5_ ⊢
   have zi := n0_
   have ze := n1_
   have zb := n2_
   have zc := n3_
   have zd := n4_
   have HB := n5_
   clear n0_ n1_ n2_ n3_ n4_ n5_
   replace zi := aM (Kd.R_drew zi.out)
   replace ze := aM (Kd.R_drew ze.out)
   replace zb := aM (blk_drew zb.out)
   replace zc := aM (blk_drew zc.out)
   replace zd := aM (blk_drew zd.out)
   replace HB := aM (below_drew1 HB.out)
   have p342 : 0 ≤ (a1 : Int) := of_decide_eq_true pD
   have q342 : a1 < (l0_2.length : Int) := of_decide_eq_true pD
   obtain ⟨ad342, e342, hx342_0⟩ := Kd.at_int z1.out a1 p342 q342
   have hw342_0 := hx342_0
   obtain rfl : ad341 = ad342 := (by injection e342)
   replace hx342_0 := (HB.out.cell (World.block_lt_of_cell? w _ hx342_0)).trans hx342_0
   replace p342 := eq_true p342
   replace q342 := eq_true q342
   have p23 : 0 ≤ (a1 : Int) := of_decide_eq_true pD
   have q23 : (a1 : Int) < ((zh.length : Int) : Int) := of_decide_eq_true pD
   obtain ⟨go23, co23, zag, zah, gl23, cl23, HG23⟩ := Kd.R_form ze.out (by omega)
   (first | cases zag | (injection zag with ea_ en_ ec_; (first | subst ea_ | (injection ea_ with ea_; subst ea_)); subst ec_; clear en_))
   have GB23 := aM zah
   have GG23 := aM HG23
   clear zah gl23 HG23
   obtain ⟨hx23_0, hf23_0⟩ := Kd.R_celln 0 ze.out (a1 : Int) p23 q23
   replace p23 := eq_true p23
   replace q23 := eq_true q23
   have HP39 := Kd.R_putn ze.out (a1 : Int) (wrap64 (-(rd l0_2 a1)))
   rw [← Ny343.out] at HP39
   have HQ39 := aM HP39
   clear HP39
   refine start_ (n := 11) (S := fun w' => w'.cell? ⟨za, 0, none⟩ = some (.int .i64 (wrap64 (zg + (wrap64 ((wrap64 ((rd l0_1 a1) - 1)) * (rd l0_2 a1)))))) ∧ w'.cell? ⟨za, 1, none⟩ = some (.slice zq zj.length zr) ∧ w'.cell? ⟨za, 2, none⟩ = some (.slice (some ⟨go23, 0, none⟩) zh.length zs) ∧ w'.cell? ⟨zt, 0, none⟩ = some (.int .i64 a0_0) ∧ w'.cell? ⟨zt, 1, none⟩ = some (.slice (some ad340) l0_1.length c0_1) ∧ w'.cell? ⟨zt, 2, none⟩ = some (.slice (some ad341) l0_2.length c0_2) ∧ w'.cell? (ad341.add (a1).toNat) = some (.int .i64 (rd l0_2 a1))) (ds := [10]) (bm 11 0) (by kernel_rfl) rfl rfl ⟨(blk_cell zd.out 0).trans rfl, (blk_cell zd.out 1).trans rfl, (blk_cell zd.out 2).trans rfl, (blk_cell zb.out 0).trans rfl, (blk_cell zb.out 1).trans rfl, (blk_cell zb.out 2).trans rfl, ((HB.out.cell (World.block_lt_of_cell? w _ hw342_0)).trans hw342_0)⟩ (fun hHeld => ?_); refine with_tabW view_Flip.tab9 view_Flip.bits9 (fun HT_ HW_ => ?_)
   generalize w37.drew = w38 at zi ze zb zc zd HB GG23 HQ39 hf23_0 hx23_0 hx342_0 hHeld ⊢
   refine pP (i := 0) (N := some 43) (bm 11 1) rfl rfl HT_.out ?_
   refine pP (i := 2) (N := some 45) (bm 11 5) rfl rfl HT_.out ?_
   refine pP (i := 3) (N := some 46) (bm 11 13) rfl rfl HT_.out ?_
   refine pP (i := 5) (N := some 48) (bm 11 45) rfl rfl HT_.out ?_
   refine pT (i := 1) (N := some 44) (bm 11 47) rfl rfl HT_.out HW_.out hHeld (by rintro w' ⟨s0, s1, s2, s3, s4, s5, s6⟩; go_simp; with_reducible rfl) ?_
   refine pT (i := 4) (N := some 47) (bm 11 63) rfl rfl HT_.out HW_.out hHeld (by rintro w' ⟨s0, s1, s2, s3, s4, s5, s6⟩; go_simp; with_reducible rfl) ?_
   refine pP (i := 6) (N := some 49) (bm 11 127) rfl rfl HT_.out ?_
   refine pT (i := 7) (N := some 50) (bm 11 255) rfl rfl HT_.out HW_.out hHeld (by rintro w' ⟨s0, s1, s2, s3, s4, s5, s6⟩; go_simp; with_reducible rfl) ?_
   refine pP (i := 8) (N := some 51) (bm 11 511) rfl rfl HT_.out ?_
   refine pP (i := 9) (N := some 52) (bm 11 1023) rfl rfl HT_.out ?_
   refine last_ (i := 10) (N := none) (bm 11 2047) rfl rfl (one_of HT_.out (by kernel_rfl)) (by decide) (fun K hK => ?_)
   refine skip_ (w1 := ?_) (by rfl) rfl ?_ ?_
   rotate_left
   ·go_simp
    rfl
   refine hK.out _ _ ?_
   clear hK K
   refine done_ (done_of HT_.out (by kernel_rfl)) ?_
   have n0_ : Aside0 (Kd.R (Kd.int .i64) 3 (w38.setCell ⟨go23, (a1 : Int).toNat, none⟩ (.int .i64 (wrap64 (-(rd l0_2 a1))))) w.heap.size (fun k_ => some k_ ≠ (.slice (some ⟨go23, 0, none⟩) zh.length zs : Value).ownBlock) (.slice zq zj.length zr) zj) := ⟨by (with_reducible repeat (first | apply rA | apply rN | apply rD)); exact Kd.R_mono (Kd.R_far (p := ⟨go23, (a1 : Int).toNat, none⟩) (Kd.R_mono zi.out (fun k_ hk => (⟨hk, fun e_ => hk (by rw [e_]; rfl)⟩ : _ ∧ k_ ≠ go23))) (fun _ hk => hk.2) (.int .i64 (wrap64 (-(rd l0_2 a1))))) (fun _ hk => hk.1)⟩
   have n1_ : Aside0 (Kd.R (Kd.int .i64) 3 (w38.setCell ⟨go23, (a1 : Int).toNat, none⟩ (.int .i64 (wrap64 (-(rd l0_2 a1))))) w.heap.size (fun k_ => some k_ ≠ (.slice zq zj.length zr : Value).ownBlock) (.slice (some ⟨go23, 0, none⟩) zh.length zs) zaf) := ⟨pR HQ39.out⟩
   have n2_ : Aside0 ((w38.setCell ⟨go23, (a1 : Int).toNat, none⟩ (.int .i64 (wrap64 (-(rd l0_2 a1))))).heap[zt]? = some (.cells #[.int .i64 a0_0, .slice (some ad340) l0_1.length c0_1, .slice (some ad341) l0_2.length c0_2] 24 (0, 0))) := ⟨by (with_reducible repeat (first | apply bN | apply bD | apply bA)); refine blk_far ?_ (by have h_ := Kd.R_ne ze.out zb.out (by decide); intro e_; exact h_ (by rw [e_]; rfl)) _; (with_reducible repeat (first | apply bN | apply bD | apply bA)); exact zb.out⟩
   have n3_ : Aside0 ((w38.setCell ⟨go23, (a1 : Int).toNat, none⟩ (.int .i64 (wrap64 (-(rd l0_2 a1))))).heap[zl]? = some (.cells #[.int .i64 0, .slice none 0 0, .slice none 0 0] 24 (0, 0))) := ⟨by (with_reducible repeat (first | apply bN | apply bD | apply bA)); refine blk_far ?_ (by have h_ := Kd.R_ne ze.out zc.out (by decide); intro e_; exact h_ (by rw [e_]; rfl)) _; (with_reducible repeat (first | apply bN | apply bD | apply bA)); exact zc.out⟩
   have n4_ : Aside0 ((w38.setCell ⟨go23, (a1 : Int).toNat, none⟩ (.int .i64 (wrap64 (-(rd l0_2 a1))))).heap[za]? = some (.cells #[.int .i64 (wrap64 (zg + (wrap64 ((wrap64 ((rd l0_1 a1) - 1)) * (rd l0_2 a1))))), .slice zq zj.length zr, .slice (some ⟨go23, 0, none⟩) zh.length zs] 24 (0, 0))) := ⟨by (with_reducible repeat (first | apply bN | apply bD | apply bA)); refine blk_far ?_ (by have h_ := Kd.R_ne ze.out zd.out (by decide); intro e_; exact h_ (by rw [e_]; rfl)) _; (with_reducible repeat (first | apply bN | apply bD | apply bA)); exact zd.out⟩
   have n5_ : Aside0 (Below w.heap.size w (w38.setCell ⟨go23, (a1 : Int).toNat, none⟩ (.int .i64 (wrap64 (-(rd l0_2 a1)))))) := ⟨qB4 HB GB23 zf zk z2⟩
   (try clear zi)
   (try clear ze)
   (try clear zb)
   (try clear zc)
   (try clear zd)
   (try clear HB)
   generalize (w38.setCell ⟨go23, (a1 : Int).toNat, none⟩ (.int .i64 (wrap64 (-(rd l0_2 a1))))) = w40 at n0_ n1_ n2_ n3_ n4_ n5_ ⊢
   have zi := n0_
   have ze := n1_
   have zb := n2_
   have zc := n3_
   have zd := n4_
   have HB := n5_
   clear n0_ n1_ n2_ n3_ n4_ n5_
   obtain ⟨hcz41_0, hcz41_1, hcz41_2, hfz41_0, hfz41_1, hfz41_2⟩ := blk3 zd.out
   obtain ⟨hcz42_0, hcz42_1, hcz42_2, hfz42_0, hfz42_1, hfz42_2⟩ := blk3 zc.out
   try go_wp2
   refine bodyPost_ret (results_ct rfl _ _ zl 24 #[.int .i64 (wrap64 (zg + (wrap64 ((wrap64 ((rd l0_1 a1) - 1)) * (rd l0_2 a1))))), .slice zq zj.length zr, .slice (some ⟨go23, 0, none⟩) zh.length zs] (0, 0) _ rfl (by exact P3 zc) Try.underlying24 rfl (by kernel_rfl)) rfl ?_
   exact ⟨_, _, pE, by (with_reducible repeat (first | apply rA | apply rN | apply rD)); exact Kd.R_mono (Kd.R_far (p := ⟨zl, 2, none⟩) (Kd.R_far (p := ⟨zl, 1, none⟩) (Kd.R_far (p := ⟨zl, 0, none⟩) (Kd.R_types zi.out zc.out (by decide)) (fun _ hk => hk.2) (.int .i64 (wrap64 (zg + (wrap64 ((wrap64 ((rd l0_1 a1) - 1)) * (rd l0_2 a1))))))) (fun _ hk => hk.2) (.slice zq zj.length zr)) (fun _ hk => hk.2) (.slice (some ⟨go23, 0, none⟩) zh.length zs)) (fun _ hk => hk.1), by (with_reducible repeat (first | apply rA | apply rN | apply rD)); exact Kd.R_mono (Kd.R_far (p := ⟨zl, 2, none⟩) (Kd.R_far (p := ⟨zl, 1, none⟩) (Kd.R_far (p := ⟨zl, 0, none⟩) (Kd.R_types ze.out zc.out (by decide)) (fun _ hk => hk.2) (.int .i64 (wrap64 (zg + (wrap64 ((wrap64 ((rd l0_1 a1) - 1)) * (rd l0_2 a1))))))) (fun _ hk => hk.2) (.slice zq zj.length zr)) (fun _ hk => hk.2) (.slice (some ⟨go23, 0, none⟩) zh.length zs)) (fun _ hk => hk.1), qB3 HB zf zk z2⟩
end Go.Proofs.Ytjbpekblcecneaa.Q
