-- By wip/gprint.py (this session's), out of the kit's print.py.
import Derived.Test.YticcamciaohepaaQx0
import Derived.Test.YticcamciaohepaaQxfShapeWith
namespace Go.Proofs.Yticcamciaohepaa.Q
open Go.RowKit Go.Proofs.YticcamciaohepaaW.PrintWords Go.Proofs.YticcamciaohepaaW.PrintLast Go.Proofs.YticcamciaohepaaW.PrintMore
attribute [local go_sem] max2_int min2_int max_two min_two max_three min_three max_four min_four   -- for this text's walks alone
set_option linter.unusedVariables false
set_option linter.unusedSimpArgs false

/-! ### move_put: function 24 -/
def move_put.l0 : Nat → List Int → List Int → Int → Int → Int → Int → Int → Int → Int → Int → Int → Int → Bool → List Int → Option (List Int × Int)
 | 0, _, _, _, _, _, _, _, _, _, _, _, _, _, _ => none
 | k + 1, x6, x34, x35, x36, x117000, zam, x117002, x117003, x117004, x117005, x117006, x117007, x117008, x117009 => if x36 < x35 then (if 0 ≤ x36 then (if x36 < (x34.length : Int) then (if (rd x34 x36) < 0 then (some (([] : List Int), 11)) else (if (rd x34 x36) ≥ zam then (some (([] : List Int), 11)) else (move_put.l0 k x6 x34 x35 (wrap64 (x36 + 1)) x117000 zam x117002 x117003 x117004 x117005 x117006 x117007 x117008 x117009))) else (none)) else (none)) else (some (x6, 0))
def move_put.f (k : Nat) (l0 : List Int) (a1_0 : Int) (a1_1 : Int) (a1_2 : Int) (a1_3 : Int) (a1_4 : Int) (a1_5 : Int) (a1_6 : Int) (a1_7 : Int) (a1_8 : Bool) (l1_9 : List Int) : Option (List Int × Int) := (shape_With.f k l0 a1_0 a1_1).bind fun bt117 => (if bt117.2 = 0 then (if 0 ≤ a1_0 then (if a1_0 < (l0.length : Int) then (if (l1_9.length : Int) = (rd l0 a1_0) then (move_put.l0 k bt117.1 l1_9 (l1_9.length : Int) 0 a1_0 a1_1 a1_2 a1_3 a1_4 a1_5 a1_6 a1_7 a1_8 l1_9) else (some (([] : List Int), 8))) else (none)) else (none)) else (some (([] : List Int), bt117.2)))
set_option maxHeartbeats 8000000 in
set_option maxRecDepth 100000 in
theorem move_put.calls (k : Nat) (A0 : Option Addr) (c0 : Nat) (l0 : List Int) (a1_0 : Int) (a1_1 : Int) (a1_2 : Int) (a1_3 : Int) (a1_4 : Int) (a1_5 : Int) (a1_6 : Int) (a1_7 : Int) (a1_8 : Bool) (A1_9 : Option Addr) (c1_9 : Nat) (l1_9 : List Int) (r1 : List Int) (r2 : Int) (w : World) (hr0 : Kd.C (Kd.int .i64) w A0 l0.length l0) (hc0 : l0.length ≤ c0) (hr1_9 : Kd.C (Kd.int .i64) w A1_9 l1_9.length l1_9) (hc1_9 : l1_9.length ≤ c1_9) (h : move_put.f k l0 a1_0 a1_1 a1_2 a1_3 a1_4 a1_5 a1_6 a1_7 a1_8 l1_9 = some (r1, r2)) :
  Calls Try.prog 24 #[.slice A0 l0.length c0, .agg #[.int .i64 a1_0, .int .i64 a1_1, .int .i64 a1_2, .int .i64 a1_3, .int .i64 a1_4, .int .i64 a1_5, .int .i64 a1_6, .int .i64 a1_7, .bool a1_8, .slice A1_9 l1_9.length c1_9]] w fun e w' => ∃ v0_ : Value, e = .returned (.tuple #[v0_, .int .i64 r2]) ∧ Kd.R (Kd.int .i64) 3 w' w.heap.size (fun _ => True) v0_ r1 ∧ Below w.heap.size w w' := by
 have hu24 := Try.underlying24
 have HR0 := aM hr0
 have HC0 := aM hc0
 clear hr0 hc0
 have zcb := aM hr1_9
 have HC1_9 := aM hc1_9
 clear hr1_9 hc1_9
 have HB := aM (Below.refl w.heap.size w)
 have H : ((shape_With.f k l0 a1_0 a1_1).bind fun bt117 => (if bt117.2 = 0 then (if 0 ≤ a1_0 then (if a1_0 < (l0.length : Int) then (if (l1_9.length : Int) = (rd l0 a1_0) then (move_put.l0 k bt117.1 l1_9 (l1_9.length : Int) 0 a1_0 a1_1 a1_2 a1_3 a1_4 a1_5 a1_6 a1_7 a1_8 l1_9) else (some (([] : List Int), 8))) else (none)) else (none)) else (some (([] : List Int), bt117.2)))) = some (r1, r2) := h
 clear h
 replace H := Option.bind_eq_some_iff.mp H
 obtain ⟨⟨zg, zd⟩, A30, H⟩ := H
 try dsimp only at H
 have A3 := aM A30
 clear A30
 by_cases c4 : zd = 0
 rotate_left
 ·rw [if_neg c4] at H
  have zcc : (zd == 0) = false := beq_eq_false_iff_ne.mpr c4
  have zcd : (zd != 0) = true := bne_iff_ne.mpr c4
  simp only [Option.some.injEq, Prod.mk.injEq] at H
  obtain ⟨rfl, rfl⟩ := H
  go_enter Try.func24, Try.ntmps24
  go_wp2_with (first | ((with_reducible refine gate_dst (N := 3) rfl ?_); refine box_event ?hg (N := 3) ?hd (cs := #[.int .i64 a1_0, .int .i64 a1_1, .int .i64 a1_2, .int .i64 a1_3, .int .i64 a1_4, .int .i64 a1_5, .int .i64 a1_6, .int .i64 a1_7, .bool a1_8, .slice A1_9 l1_9.length c1_9]) (t := 24) ?hr ?_; (case hd => rfl); (case hg => rfl); (case hr => first | (go_simp; done) | (go_simp; rfl)); intro ze hg w23 hbox hb; have za := aM (hbox); have zc := gE (w := w) hg (qB HB); have zb := zc; replace HB := bS (qB HB) hb; clear hb hbox hg; obtain ⟨zan, zao, zap, zaq, zar, zas, zat, zau, zav, zaw, zax, zay, zaz, za0, za1, za2, za3, za4, za5, za6⟩ := blk10 za.out) | (go_at_call 36; (with_reducible refine (shape_With.calls k _ _ l0 a1_0 a1_1 zg zd _ ?s1 ?s2 A3.out).mono ?_); (case s1 => exact sC HR0 HB); (case s2 => exact HC0.out); rintro e w25 ⟨zh, rfl, ho0, hb⟩; have zf := aM (Kd.R_lower ho0 (below_size (qB1 HB zb))); replace za := bK za hb; replace HB := bS (qB1 HB zb) hb; (try clear hb); (try clear hk); (try clear hi); (try clear ho0)))
  repeat (go_quiet (first | ((with_reducible refine gate_dst (N := 3) rfl ?_); refine box_event ?hg (N := 3) ?hd (cs := #[.int .i64 a1_0, .int .i64 a1_1, .int .i64 a1_2, .int .i64 a1_3, .int .i64 a1_4, .int .i64 a1_5, .int .i64 a1_6, .int .i64 a1_7, .bool a1_8, .slice A1_9 l1_9.length c1_9]) (t := 24) ?hr ?_; (case hd => rfl); (case hg => rfl); (case hr => first | (go_simp; done) | (go_simp; rfl)); intro ze hg w23 hbox hb; have za := aM (hbox); have zc := gE (w := w) hg (qB HB); have zb := zc; replace HB := bS (qB HB) hb; clear hb hbox hg; obtain ⟨zan, zao, zap, zaq, zar, zas, zat, zau, zav, zaw, zax, zay, zaz, za0, za1, za2, za3, za4, za5, za6⟩ := blk10 za.out) | (go_at_call 36; (with_reducible refine (shape_With.calls k _ _ l0 a1_0 a1_1 zg zd _ ?s1 ?s2 A3.out).mono ?_); (case s1 => exact sC HR0 HB); (case s2 => exact HC0.out); rintro e w25 ⟨zh, rfl, ho0, hb⟩; have zf := aM (Kd.R_lower ho0 (below_size (qB1 HB zb))); replace za := bK za hb; replace HB := bS (qB1 HB zb) hb; (try clear hb); (try clear hk); (try clear hi); (try clear ho0))); try go_wp2_with (first | ((with_reducible refine gate_dst (N := 3) rfl ?_); refine box_event ?hg (N := 3) ?hd (cs := #[.int .i64 a1_0, .int .i64 a1_1, .int .i64 a1_2, .int .i64 a1_3, .int .i64 a1_4, .int .i64 a1_5, .int .i64 a1_6, .int .i64 a1_7, .bool a1_8, .slice A1_9 l1_9.length c1_9]) (t := 24) ?hr ?_; (case hd => rfl); (case hg => rfl); (case hr => first | (go_simp; done) | (go_simp; rfl)); intro ze hg w23 hbox hb; have za := aM (hbox); have zc := gE (w := w) hg (qB HB); have zb := zc; replace HB := bS (qB HB) hb; clear hb hbox hg; obtain ⟨zan, zao, zap, zaq, zar, zas, zat, zau, zav, zaw, zax, zay, zaz, za0, za1, za2, za3, za4, za5, za6⟩ := blk10 za.out) | (go_at_call 36; (with_reducible refine (shape_With.calls k _ _ l0 a1_0 a1_1 zg zd _ ?s1 ?s2 A3.out).mono ?_); (case s1 => exact sC HR0 HB); (case s2 => exact HC0.out); rintro e w25 ⟨zh, rfl, ho0, hb⟩; have zf := aM (Kd.R_lower ho0 (below_size (qB1 HB zb))); replace za := bK za hb; replace HB := bS (qB1 HB zb) hb; (try clear hb); (try clear hk); (try clear hi); (try clear ho0))))
  go_ret2
  exact ⟨_, pE, pN, qB1 HB zb⟩

 rw [if_pos c4] at H
 have zcc : (zd == 0) = true := beq_iff_eq.mpr c4
 have zcd : (zd != 0) = false := bne_eq_false_iff_eq.mpr c4
 clear c4
 by_cases c5 : 0 ≤ a1_0
 rotate_left
 ·rw [if_neg c5] at H
  exact absurd H (by simp)
 rw [if_pos c5] at H
 have c5b0 : decide (0 ≤ a1_0) = true := decide_eq_true c5
 clear c5
 by_cases c6 : a1_0 < (l0.length : Int)
 rotate_left
 ·rw [if_neg c6] at H
  exact absurd H (by simp)
 rw [if_pos c6] at H
 have c6b0 : decide (a1_0 < (l0.length : Int)) = true := decide_eq_true c6
 clear c6
 by_cases c7 : (l1_9.length : Int) = (rd l0 a1_0)
 rotate_left
 ·rw [if_neg c7] at H
  have zce : ((l1_9.length : Int) == (rd l0 a1_0)) = false := beq_eq_false_iff_ne.mpr c7
  have zcf : ((l1_9.length : Int) != (rd l0 a1_0)) = true := bne_iff_ne.mpr c7
  simp only [Option.some.injEq, Prod.mk.injEq] at H
  obtain ⟨rfl, rfl⟩ := H
  go_enter Try.func24, Try.ntmps24
  go_wp2_with (first | ((with_reducible refine gate_dst (N := 3) rfl ?_); refine box_event ?hg (N := 3) ?hd (cs := #[.int .i64 a1_0, .int .i64 a1_1, .int .i64 a1_2, .int .i64 a1_3, .int .i64 a1_4, .int .i64 a1_5, .int .i64 a1_6, .int .i64 a1_7, .bool a1_8, .slice A1_9 l1_9.length c1_9]) (t := 24) ?hr ?_; (case hd => rfl); (case hg => rfl); (case hr => first | (go_simp; done) | (go_simp; rfl)); intro ze hg w19 hbox hb; have za := aM (hbox); have zc := gE (w := w) hg (qB HB); have zb := zc; replace HB := bS (qB HB) hb; clear hb hbox hg; obtain ⟨za7, za8, za9, zba, zbb, zbc, zbd, zbe, zbf, zbg, zbh, zbi, zbj, zbk, zbl, zbm, zbn, zbo, zbp, zbq⟩ := blk10 za.out) | (go_at_call 36; (with_reducible refine (shape_With.calls k _ _ l0 a1_0 a1_1 zg zd _ ?s1 ?s2 A3.out).mono ?_); (case s1 => exact sC HR0 HB); (case s2 => exact HC0.out); rintro e w21 ⟨zh, rfl, ho0, hb⟩; have zf := aM (Kd.R_lower ho0 (below_size (qB1 HB zb))); replace za := bK za hb; replace HB := bS (qB1 HB zb) hb; (try clear hb); (try clear hk); (try clear hi); (try clear ho0); obtain ⟨zbr, zbs, zbt, zbu, zbv, zbw, zbx, zby, zbz, zb0, zb1, zb2, zb3, zb4, zb5, zb6, zb7, zb8, zb9, zca⟩ := blk10 za.out; have p121 : 0 ≤ (a1_0 : Int) := of_decide_eq_true pD; have q121 : a1_0 < (l0.length : Int) := of_decide_eq_true pD; obtain ⟨ad121, e121, hx121_0⟩ := Kd.at_int HR0.out a1_0 p121 q121; cases e121; replace hx121_0 := (HB.out.cell (World.block_lt_of_cell? w _ hx121_0)).trans hx121_0; replace p121 := eq_true p121; replace q121 := eq_true q121))
  repeat (go_quiet (first | ((with_reducible refine gate_dst (N := 3) rfl ?_); refine box_event ?hg (N := 3) ?hd (cs := #[.int .i64 a1_0, .int .i64 a1_1, .int .i64 a1_2, .int .i64 a1_3, .int .i64 a1_4, .int .i64 a1_5, .int .i64 a1_6, .int .i64 a1_7, .bool a1_8, .slice A1_9 l1_9.length c1_9]) (t := 24) ?hr ?_; (case hd => rfl); (case hg => rfl); (case hr => first | (go_simp; done) | (go_simp; rfl)); intro ze hg w19 hbox hb; have za := aM (hbox); have zc := gE (w := w) hg (qB HB); have zb := zc; replace HB := bS (qB HB) hb; clear hb hbox hg; obtain ⟨za7, za8, za9, zba, zbb, zbc, zbd, zbe, zbf, zbg, zbh, zbi, zbj, zbk, zbl, zbm, zbn, zbo, zbp, zbq⟩ := blk10 za.out) | (go_at_call 36; (with_reducible refine (shape_With.calls k _ _ l0 a1_0 a1_1 zg zd _ ?s1 ?s2 A3.out).mono ?_); (case s1 => exact sC HR0 HB); (case s2 => exact HC0.out); rintro e w21 ⟨zh, rfl, ho0, hb⟩; have zf := aM (Kd.R_lower ho0 (below_size (qB1 HB zb))); replace za := bK za hb; replace HB := bS (qB1 HB zb) hb; (try clear hb); (try clear hk); (try clear hi); (try clear ho0); obtain ⟨zbr, zbs, zbt, zbu, zbv, zbw, zbx, zby, zbz, zb0, zb1, zb2, zb3, zb4, zb5, zb6, zb7, zb8, zb9, zca⟩ := blk10 za.out; have p121 : 0 ≤ (a1_0 : Int) := of_decide_eq_true pD; have q121 : a1_0 < (l0.length : Int) := of_decide_eq_true pD; obtain ⟨ad121, e121, hx121_0⟩ := Kd.at_int HR0.out a1_0 p121 q121; cases e121; replace hx121_0 := (HB.out.cell (World.block_lt_of_cell? w _ hx121_0)).trans hx121_0; replace p121 := eq_true p121; replace q121 := eq_true q121)); try go_wp2_with (first | ((with_reducible refine gate_dst (N := 3) rfl ?_); refine box_event ?hg (N := 3) ?hd (cs := #[.int .i64 a1_0, .int .i64 a1_1, .int .i64 a1_2, .int .i64 a1_3, .int .i64 a1_4, .int .i64 a1_5, .int .i64 a1_6, .int .i64 a1_7, .bool a1_8, .slice A1_9 l1_9.length c1_9]) (t := 24) ?hr ?_; (case hd => rfl); (case hg => rfl); (case hr => first | (go_simp; done) | (go_simp; rfl)); intro ze hg w19 hbox hb; have za := aM (hbox); have zc := gE (w := w) hg (qB HB); have zb := zc; replace HB := bS (qB HB) hb; clear hb hbox hg; obtain ⟨za7, za8, za9, zba, zbb, zbc, zbd, zbe, zbf, zbg, zbh, zbi, zbj, zbk, zbl, zbm, zbn, zbo, zbp, zbq⟩ := blk10 za.out) | (go_at_call 36; (with_reducible refine (shape_With.calls k _ _ l0 a1_0 a1_1 zg zd _ ?s1 ?s2 A3.out).mono ?_); (case s1 => exact sC HR0 HB); (case s2 => exact HC0.out); rintro e w21 ⟨zh, rfl, ho0, hb⟩; have zf := aM (Kd.R_lower ho0 (below_size (qB1 HB zb))); replace za := bK za hb; replace HB := bS (qB1 HB zb) hb; (try clear hb); (try clear hk); (try clear hi); (try clear ho0); obtain ⟨zbr, zbs, zbt, zbu, zbv, zbw, zbx, zby, zbz, zb0, zb1, zb2, zb3, zb4, zb5, zb6, zb7, zb8, zb9, zca⟩ := blk10 za.out; have p121 : 0 ≤ (a1_0 : Int) := of_decide_eq_true pD; have q121 : a1_0 < (l0.length : Int) := of_decide_eq_true pD; obtain ⟨ad121, e121, hx121_0⟩ := Kd.at_int HR0.out a1_0 p121 q121; cases e121; replace hx121_0 := (HB.out.cell (World.block_lt_of_cell? w _ hx121_0)).trans hx121_0; replace p121 := eq_true p121; replace q121 := eq_true q121)))
  go_ret2
  exact ⟨_, pE, pN, qB1 HB zb⟩
 rw [if_pos c7] at H
 have zce : ((l1_9.length : Int) == (rd l0 a1_0)) = true := beq_iff_eq.mpr c7
 have zcf : ((l1_9.length : Int) != (rd l0 a1_0)) = false := bne_eq_false_iff_eq.mpr c7
 clear c7
 have H' := aM H
 clear H
 go_enter Try.func24, Try.ntmps24
 go_wp2_with (first | ((with_reducible refine gate_dst (N := 3) rfl ?_); refine box_event ?hg (N := 3) ?hd (cs := #[.int .i64 a1_0, .int .i64 a1_1, .int .i64 a1_2, .int .i64 a1_3, .int .i64 a1_4, .int .i64 a1_5, .int .i64 a1_6, .int .i64 a1_7, .bool a1_8, .slice A1_9 l1_9.length c1_9]) (t := 24) ?hr ?_; (case hd => rfl); (case hg => rfl); (case hr => first | (go_simp; done) | (go_simp; rfl)); intro ze hg w8 hbox hb; have za := aM (hbox); have zc := gE (w := w) hg (qB HB); have zb := zc; replace HB := bS (qB HB) hb; clear hb hbox hg; obtain ⟨z2, z3, z4, z5, z6, z7, z8, z9, zaa, zab, zac, zad, zae, zaf, zag, zah, zai, zaj, zak, zal⟩ := blk10 za.out) | (go_at_call 36; (with_reducible refine (shape_With.calls k _ _ l0 a1_0 a1_1 zg zd _ ?s1 ?s2 A3.out).mono ?_); (case s1 => exact sC HR0 HB); (case s2 => exact HC0.out); rintro e w10 ⟨zh, rfl, ho0, hb⟩; have zf := aM (Kd.R_lower ho0 (below_size (qB1 HB zb))); replace za := bK za hb; replace HB := bS (qB1 HB zb) hb; (try clear hb); (try clear hk); (try clear hi); (try clear ho0); obtain ⟨zi, zj, zk, zl, zm, zn, zo, zp, zq, zr, zs, zt, zu, zv, zw, zx, zy, zz, z0, z1⟩ := blk10 za.out; have p121 : 0 ≤ (a1_0 : Int) := of_decide_eq_true pD; have q121 : a1_0 < (l0.length : Int) := of_decide_eq_true pD; obtain ⟨ad121, e121, hx121_0⟩ := Kd.at_int HR0.out a1_0 p121 q121; cases e121; replace hx121_0 := (HB.out.cell (World.block_lt_of_cell? w _ hx121_0)).trans hx121_0; replace p121 := eq_true p121; replace q121 := eq_true q121))
 repeat (go_quiet (first | ((with_reducible refine gate_dst (N := 3) rfl ?_); refine box_event ?hg (N := 3) ?hd (cs := #[.int .i64 a1_0, .int .i64 a1_1, .int .i64 a1_2, .int .i64 a1_3, .int .i64 a1_4, .int .i64 a1_5, .int .i64 a1_6, .int .i64 a1_7, .bool a1_8, .slice A1_9 l1_9.length c1_9]) (t := 24) ?hr ?_; (case hd => rfl); (case hg => rfl); (case hr => first | (go_simp; done) | (go_simp; rfl)); intro ze hg w8 hbox hb; have za := aM (hbox); have zc := gE (w := w) hg (qB HB); have zb := zc; replace HB := bS (qB HB) hb; clear hb hbox hg; obtain ⟨z2, z3, z4, z5, z6, z7, z8, z9, zaa, zab, zac, zad, zae, zaf, zag, zah, zai, zaj, zak, zal⟩ := blk10 za.out) | (go_at_call 36; (with_reducible refine (shape_With.calls k _ _ l0 a1_0 a1_1 zg zd _ ?s1 ?s2 A3.out).mono ?_); (case s1 => exact sC HR0 HB); (case s2 => exact HC0.out); rintro e w10 ⟨zh, rfl, ho0, hb⟩; have zf := aM (Kd.R_lower ho0 (below_size (qB1 HB zb))); replace za := bK za hb; replace HB := bS (qB1 HB zb) hb; (try clear hb); (try clear hk); (try clear hi); (try clear ho0); obtain ⟨zi, zj, zk, zl, zm, zn, zo, zp, zq, zr, zs, zt, zu, zv, zw, zx, zy, zz, z0, z1⟩ := blk10 za.out; have p121 : 0 ≤ (a1_0 : Int) := of_decide_eq_true pD; have q121 : a1_0 < (l0.length : Int) := of_decide_eq_true pD; obtain ⟨ad121, e121, hx121_0⟩ := Kd.at_int HR0.out a1_0 p121 q121; cases e121; replace hx121_0 := (HB.out.cell (World.block_lt_of_cell? w _ hx121_0)).trans hx121_0; replace p121 := eq_true p121; replace q121 := eq_true q121)); try go_wp2_with (first | ((with_reducible refine gate_dst (N := 3) rfl ?_); refine box_event ?hg (N := 3) ?hd (cs := #[.int .i64 a1_0, .int .i64 a1_1, .int .i64 a1_2, .int .i64 a1_3, .int .i64 a1_4, .int .i64 a1_5, .int .i64 a1_6, .int .i64 a1_7, .bool a1_8, .slice A1_9 l1_9.length c1_9]) (t := 24) ?hr ?_; (case hd => rfl); (case hg => rfl); (case hr => first | (go_simp; done) | (go_simp; rfl)); intro ze hg w8 hbox hb; have za := aM (hbox); have zc := gE (w := w) hg (qB HB); have zb := zc; replace HB := bS (qB HB) hb; clear hb hbox hg; obtain ⟨z2, z3, z4, z5, z6, z7, z8, z9, zaa, zab, zac, zad, zae, zaf, zag, zah, zai, zaj, zak, zal⟩ := blk10 za.out) | (go_at_call 36; (with_reducible refine (shape_With.calls k _ _ l0 a1_0 a1_1 zg zd _ ?s1 ?s2 A3.out).mono ?_); (case s1 => exact sC HR0 HB); (case s2 => exact HC0.out); rintro e w10 ⟨zh, rfl, ho0, hb⟩; have zf := aM (Kd.R_lower ho0 (below_size (qB1 HB zb))); replace za := bK za hb; replace HB := bS (qB1 HB zb) hb; (try clear hb); (try clear hk); (try clear hi); (try clear ho0); obtain ⟨zi, zj, zk, zl, zm, zn, zo, zp, zq, zr, zs, zt, zu, zv, zw, zx, zy, zz, z0, z1⟩ := blk10 za.out; have p121 : 0 ≤ (a1_0 : Int) := of_decide_eq_true pD; have q121 : a1_0 < (l0.length : Int) := of_decide_eq_true pD; obtain ⟨ad121, e121, hx121_0⟩ := Kd.at_int HR0.out a1_0 p121 q121; cases e121; replace hx121_0 := (HB.out.cell (World.block_lt_of_cell? w _ hx121_0)).trans hx121_0; replace p121 := eq_true p121; replace q121 := eq_true q121)))
 go_loopg [36] k (fun kq v36 w' => ∃ (x36_1 : Int), v36 = .int .i64 x36_1 ∧ Aside0 (move_put.l0 kq zg l1_9 (l1_9.length : Int) x36_1 a1_0 a1_1 a1_2 a1_3 a1_4 a1_5 a1_6 a1_7 a1_8 l1_9 = some (r1, r2)) ∧ Aside0 (kq ≤ k) ∧ Aside0 (Kd.R (Kd.int .i64) 3 w' w.heap.size (fun _ => True) zh zg) ∧ Aside0 (w'.heap[ze]? = some (.cells #[.int .i64 a1_0, .int .i64 a1_1, .int .i64 a1_2, .int .i64 a1_3, .int .i64 a1_4, .int .i64 a1_5, .int .i64 a1_6, .int .i64 a1_7, .bool a1_8, (.slice A1_9 l1_9.length c1_9)] 24 (0, 0))) ∧ Aside0 (Below w.heap.size w w'))
 case atStart => exact ⟨(0), (pF), H', ⟨Nat.le_refl _⟩, ⟨pR zf.out⟩, ⟨pK za.out⟩, ⟨qB1 HB zb⟩⟩
 case round =>
  clear H'
  try clear zcc
  try clear zcd
  try clear c5b0
  try clear c6b0
  try clear zce
  try clear zcf
  try clear zi zj zk zl zm zn zo zp zq zr z2 z3 z4 z5 z6 z7 z8 z9 zaa zab zs zt zu zv zw zx zy zz z0 z1 zac zad zae zaf zag zah zai zaj zak zal
  try clear hx121_0
  try clear p121
  try clear q121
  obtain ⟨x36_1, rfl, HA, HK1, zcg, za, HB⟩ := hrel
  cases gk with
  | zero => exact absurd HA.out (by simp [move_put.l0])
  | succ k1 =>
   have H := HA.out
   clear HA
   simp only [move_put.l0] at H
   by_cases c12 : x36_1 < (l1_9.length : Int)
   rotate_left
   ·rw [if_neg c12] at H
    have c12b0 : decide (x36_1 < (l1_9.length : Int)) = false := decide_eq_false c12
    clear c12
    simp only [Option.some.injEq, Prod.mk.injEq] at H
    obtain ⟨rfl, rfl⟩ := H
    go_wp2
    repeat (go_quiet (fail); try go_wp2)
    go_ret2
    exact ⟨_, pE, pR zcg.out, qB1 HB zb⟩
   rw [if_pos c12] at H
   have c12b0 : decide (x36_1 < (l1_9.length : Int)) = true := decide_eq_true c12
   clear c12
   by_cases c13 : 0 ≤ x36_1
   rotate_left
   ·rw [if_neg c13] at H
    exact absurd H (by simp)
   rw [if_pos c13] at H
   have c13b0 : decide (0 ≤ x36_1) = true := decide_eq_true c13
   clear c13
   by_cases c14 : x36_1 < (l1_9.length : Int)
   rotate_left
   ·rw [if_neg c14] at H
    exact absurd H (by simp)
   rw [if_pos c14] at H
   have c14b0 : decide (x36_1 < (l1_9.length : Int)) = true := decide_eq_true c14
   clear c14
   by_cases c15 : (rd l1_9 x36_1) < 0
   ·rw [if_pos c15] at H
    have c15b0 : decide ((rd l1_9 x36_1) < 0) = true := decide_eq_true c15
    clear c15
    simp only [Option.some.injEq, Prod.mk.injEq] at H
    obtain ⟨rfl, rfl⟩ := H
    have p122 : 0 ≤ (x36_1 : Int) := of_decide_eq_true pD
    have q122 : x36_1 < (l1_9.length : Int) := of_decide_eq_true pD
    obtain ⟨ad122, e122, hx122_0⟩ := Kd.at_int zcb.out x36_1 p122 q122
    cases e122
    replace hx122_0 := (HB.out.cell (World.block_lt_of_cell? w _ hx122_0)).trans hx122_0
    replace p122 := eq_true p122
    replace q122 := eq_true q122
    go_wp2
    repeat (go_quiet (fail); try go_wp2)
    go_ret2
    exact ⟨_, pE, pN, qB1 HB zb⟩
   rw [if_neg c15] at H
   have c15b0 : decide ((rd l1_9 x36_1) < 0) = false := decide_eq_false c15
   clear c15
   by_cases c16 : (rd l1_9 x36_1) ≥ a1_1
   ·rw [if_pos c16] at H
    have c16b0 : decide (a1_1 ≤ (rd l1_9 x36_1)) = true := decide_eq_true c16
    clear c16
    simp only [Option.some.injEq, Prod.mk.injEq] at H
    obtain ⟨rfl, rfl⟩ := H
    have p122 : 0 ≤ (x36_1 : Int) := of_decide_eq_true pD
    have q122 : x36_1 < (l1_9.length : Int) := of_decide_eq_true pD
    obtain ⟨ad122, e122, hx122_0⟩ := Kd.at_int zcb.out x36_1 p122 q122
    cases e122
    replace hx122_0 := (HB.out.cell (World.block_lt_of_cell? w _ hx122_0)).trans hx122_0
    replace p122 := eq_true p122
    replace q122 := eq_true q122
    obtain ⟨hcz17_0, hcz17_1, hcz17_2, hcz17_3, hcz17_4, hcz17_5, hcz17_6, hcz17_7, hcz17_8, hcz17_9, hfz17_0, hfz17_1, hfz17_2, hfz17_3, hfz17_4, hfz17_5, hfz17_6, hfz17_7, hfz17_8, hfz17_9⟩ := blk10 za.out
    go_wp2
    repeat (go_quiet (fail); try go_wp2)
    go_ret2
    exact ⟨_, pE, pN, qB1 HB zb⟩
   rw [if_neg c16] at H
   have c16b0 : decide (a1_1 ≤ (rd l1_9 x36_1)) = false := decide_eq_false c16
   clear c16
   have H' := aM H
   clear H
   have p122 : 0 ≤ (x36_1 : Int) := of_decide_eq_true pD
   have q122 : x36_1 < (l1_9.length : Int) := of_decide_eq_true pD
   obtain ⟨ad122, e122, hx122_0⟩ := Kd.at_int zcb.out x36_1 p122 q122
   cases e122
   replace hx122_0 := (HB.out.cell (World.block_lt_of_cell? w _ hx122_0)).trans hx122_0
   replace p122 := eq_true p122
   replace q122 := eq_true q122
   obtain ⟨hcz18_0, hcz18_1, hcz18_2, hcz18_3, hcz18_4, hcz18_5, hcz18_6, hcz18_7, hcz18_8, hcz18_9, hfz18_0, hfz18_1, hfz18_2, hfz18_3, hfz18_4, hfz18_5, hfz18_6, hfz18_7, hfz18_8, hfz18_9⟩ := blk10 za.out
   go_wp2
   repeat (go_quiet (fail); try go_wp2)
   go_roundg k1
   case measure => have := HK1.out; omega
   case rel => exact ⟨(wrap64 (x36_1 + 1)), (pF), H', ⟨by have := HK1.out; omega⟩, ⟨pR zcg.out⟩, ⟨pK za.out⟩, ⟨qB1 HB zb⟩⟩
end Go.Proofs.Yticcamciaohepaa.Q
