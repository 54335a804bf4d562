-- By wip/gprint.py (this session's), out of the kit's print.py.
import Derived.Test.YtekmchjlnekliaaQx0
import Derived.Test.YtekmchjlnekliaaQxfRef07Words
namespace Go.Proofs.Ytekmchjlnekliaa.Q
open Go.RowKit Go.Proofs.YtekmchjlnekliaaW.PrintWords Go.Proofs.YtekmchjlnekliaaW.PrintLast Go.Proofs.YtekmchjlnekliaaW.PrintMore
attribute [local go_sem] max2_int min2_int max_two min_two max_three min_three max_four min_four   -- for this text's walks alone
set_option linter.unusedVariables false
set_option linter.unusedSimpArgs false

/-! ### gradineref07_Same: function 21 -/
def gradineref07_Same.f (k : Nat) (a0_0 : Bool) (l0_1 : List Int) (l0_2 : List Int) (a1_0 : Bool) (l1_1 : List Int) (l1_2 : List Int) : Option (Bool) := if (a0_0 == a1_0) = true then ((gradineref07_Words.f k l0_1 l1_1).bind fun zi => (if zi = true then ((gradineref07_Words.f k l0_2 l1_2).bind fun zj => (some zj)) else (some false))) else (some false)
set_option maxHeartbeats 8000000 in
set_option maxRecDepth 100000 in
theorem gradineref07_Same.calls (k : Nat) (a0_0 : Bool) (A0_1 : Option Addr) (c0_1 : Nat) (l0_1 : List Int) (A0_2 : Option Addr) (c0_2 : Nat) (l0_2 : List Int) (a1_0 : Bool) (A1_1 : Option Addr) (c1_1 : Nat) (l1_1 : List Int) (A1_2 : Option Addr) (c1_2 : Nat) (l1_2 : List Int) (r : Bool) (w : World) (hr0_1 : Kd.C (Kd.int .u64) w A0_1 l0_1.length l0_1) (hc0_1 : l0_1.length ≤ c0_1) (hr0_2 : Kd.C (Kd.int .u64) w A0_2 l0_2.length l0_2) (hc0_2 : l0_2.length ≤ c0_2) (hr1_1 : Kd.C (Kd.int .u64) w A1_1 l1_1.length l1_1) (hc1_1 : l1_1.length ≤ c1_1) (hr1_2 : Kd.C (Kd.int .u64) w A1_2 l1_2.length l1_2) (hc1_2 : l1_2.length ≤ c1_2) (h : gradineref07_Same.f k a0_0 l0_1 l0_2 a1_0 l1_1 l1_2 = some r) :
  Calls Try.prog 21 #[.agg #[.bool a0_0, .slice A0_1 l0_1.length c0_1, .slice A0_2 l0_2.length c0_2], .agg #[.bool a1_0, .slice A1_1 l1_1.length c1_1, .slice A1_2 l1_2.length c1_2]] w fun e w' => e = .returned (.bool r) ∧ Below w.heap.size w w' := by
 have hu40 := Try.underlying40
 have zk := aM hr0_1
 have zl := aM hc0_1
 clear hr0_1 hc0_1
 have HR0_2 := aM hr0_2
 have HC0_2 := aM hc0_2
 clear hr0_2 hc0_2
 have zm := aM hr1_1
 have zn := aM hc1_1
 clear hr1_1 hc1_1
 have HR1_2 := aM hr1_2
 have HC1_2 := aM hc1_2
 clear hr1_2 hc1_2
 have HB := aM (Below.refl w.heap.size w)
 have H : (if (a0_0 == a1_0) = true then ((gradineref07_Words.f k l0_1 l1_1).bind fun zi => (if zi = true then ((gradineref07_Words.f k l0_2 l1_2).bind fun zj => (some zj)) else (some false))) else (some false)) = some r := h
 clear h
 by_cases c3 : (a0_0 == a1_0) = true
 rotate_left
 ·rw [if_neg c3] at H
  have c3b0 : (a0_0 == a1_0) = false := by simpa using c3
  (try (have c3b1 : decide (a0_0 = a1_0) = false := by simpa using c3))
  (try (have c3b2 : (a0_0 == a1_0) = false := by simpa using c3))
  (try (have c3b3 : ¬ (a0_0 = a1_0) := by simpa using c3))
  clear c3
  obtain rfl := Option.some.inj H
  go_enter Try.func21, Try.ntmps21
  go_wp2_with (first | ((with_reducible refine gate_dst (N := 2) rfl ?_); refine box_event ?hg (N := 2) ?hd (cs := #[.bool a0_0, .slice A0_1 l0_1.length c0_1, .slice A0_2 l0_2.length c0_2]) (t := 40) ?hr ?_; (case hd => rfl); (case hg => rfl); (case hr => first | (go_simp; done) | (go_simp; rfl)); intro zo hg w17 hbox hb; have za := aM (hbox); have zf := gE (w := w) hg (qB HB); have zb := zf; replace HB := bS (qB HB) hb; clear hb hbox hg) | ((with_reducible refine gate_dst (N := 3) rfl ?_); refine box_event ?hg (N := 3) ?hd (cs := #[.bool a1_0, .slice A1_1 l1_1.length c1_1, .slice A1_2 l1_2.length c1_2]) (t := 40) ?hr ?_; (case hd => rfl); (case hg => rfl); (case hr => first | (go_simp; done) | (go_simp; rfl)); intro zp hg w18 hbox hb; have zg := aM (hbox); have zh := gE (w := w) hg (qB1 HB zb); have ze := zh; replace HB := bS (qB1 HB zb) hb; have zc := nL hg za; have zd := nG hg za; replace za := bK za hb; clear hb hbox hg; have hnb19 := zc.out; have hnc19 := zd.out; obtain ⟨hcz20_0, hcz20_1, hcz20_2, hfz20_0, hfz20_1, hfz20_2⟩ := blk3 za.out; obtain ⟨hcz21_0, hcz21_1, hcz21_2, hfz21_0, hfz21_1, hfz21_2⟩ := blk3 zg.out))
  go_ret
  exact ⟨pE, qB2 HB zb ze⟩

 rw [if_pos c3] at H
 have c3b0 : (a0_0 == a1_0) = true := c3
 (try (have c3b1 : decide (a0_0 = a1_0) = true := by simpa using c3))
 (try (have c3b2 : (a0_0 == a1_0) = true := by simpa using c3))
 clear c3
 replace H := Option.bind_eq_some_iff.mp H
 obtain ⟨zi, A40, H⟩ := H
 try dsimp only at H
 have A4 := aM A40
 clear A40
 by_cases c5 : zi = true
 rotate_left
 ·replace c5 := Bool.eq_false_iff.mpr c5
  subst c5
  rw [if_neg (show ¬ (false = true) by decide)] at H
  obtain rfl := Option.some.inj H
  go_enter Try.func21, Try.ntmps21
  go_wp2_with (first | ((with_reducible refine gate_dst (N := 2) rfl ?_); refine box_event ?hg (N := 2) ?hd (cs := #[.bool a0_0, .slice A0_1 l0_1.length c0_1, .slice A0_2 l0_2.length c0_2]) (t := 40) ?hr ?_; (case hd => rfl); (case hg => rfl); (case hr => first | (go_simp; done) | (go_simp; rfl)); intro zo hg w12 hbox hb; have za := aM (hbox); have zf := gE (w := w) hg (qB HB); have zb := zf; replace HB := bS (qB HB) hb; clear hb hbox hg) | ((with_reducible refine gate_dst (N := 3) rfl ?_); refine box_event ?hg (N := 3) ?hd (cs := #[.bool a1_0, .slice A1_1 l1_1.length c1_1, .slice A1_2 l1_2.length c1_2]) (t := 40) ?hr ?_; (case hd => rfl); (case hg => rfl); (case hr => first | (go_simp; done) | (go_simp; rfl)); intro zp hg w13 hbox hb; have zg := aM (hbox); have zh := gE (w := w) hg (qB1 HB zb); have ze := zh; replace HB := bS (qB1 HB zb) hb; have zc := nL hg za; have zd := nG hg za; replace za := bK za hb; clear hb hbox hg; have hnb14 := zc.out; have hnc14 := zd.out; obtain ⟨hcz15_0, hcz15_1, hcz15_2, hfz15_0, hfz15_1, hfz15_2⟩ := blk3 za.out; obtain ⟨hcz16_0, hcz16_1, hcz16_2, hfz16_0, hfz16_1, hfz16_2⟩ := blk3 zg.out) | (go_at_call 23; (with_reducible refine (gradineref07_Words.calls k _ _ l0_1 _ _ l1_1 false _ ?s1 ?s2 ?s3 ?s4 A4.out).mono ?_); (case s1 => exact sC zk HB); (case s2 => exact zl.out); (case s3 => exact sC zm HB); (case s4 => exact zn.out); rintro e w' ⟨rfl, ⟨nd, rfl⟩⟩))
  go_ret
  exact ⟨pE, qB2 HB zb ze⟩
 subst c5
 rw [if_pos rfl] at H
 replace H := Option.bind_eq_some_iff.mp H
 obtain ⟨zj, A60, H⟩ := H
 try dsimp only at H
 have A6 := aM A60
 clear A60
 obtain rfl := Option.some.inj H
 go_enter Try.func21, Try.ntmps21
 go_wp2_with (first | ((with_reducible refine gate_dst (N := 2) rfl ?_); refine box_event ?hg (N := 2) ?hd (cs := #[.bool a0_0, .slice A0_1 l0_1.length c0_1, .slice A0_2 l0_2.length c0_2]) (t := 40) ?hr ?_; (case hd => rfl); (case hg => rfl); (case hr => first | (go_simp; done) | (go_simp; rfl)); intro zo hg w7 hbox hb; have za := aM (hbox); have zf := gE (w := w) hg (qB HB); have zb := zf; replace HB := bS (qB HB) hb; clear hb hbox hg) | ((with_reducible refine gate_dst (N := 3) rfl ?_); refine box_event ?hg (N := 3) ?hd (cs := #[.bool a1_0, .slice A1_1 l1_1.length c1_1, .slice A1_2 l1_2.length c1_2]) (t := 40) ?hr ?_; (case hd => rfl); (case hg => rfl); (case hr => first | (go_simp; done) | (go_simp; rfl)); intro zp hg w8 hbox hb; have zg := aM (hbox); have zh := gE (w := w) hg (qB1 HB zb); have ze := zh; replace HB := bS (qB1 HB zb) hb; have zc := nL hg za; have zd := nG hg za; replace za := bK za hb; clear hb hbox hg; have hnb9 := zc.out; have hnc9 := zd.out; obtain ⟨hcz10_0, hcz10_1, hcz10_2, hfz10_0, hfz10_1, hfz10_2⟩ := blk3 za.out; obtain ⟨hcz11_0, hcz11_1, hcz11_2, hfz11_0, hfz11_1, hfz11_2⟩ := blk3 zg.out) | (go_at_call 23; (with_reducible refine (gradineref07_Words.calls k _ _ l0_1 _ _ l1_1 true _ ?s1 ?s2 ?s3 ?s4 A4.out).mono ?_); (case s1 => exact sC zk HB); (case s2 => exact zl.out); (case s3 => exact sC zm HB); (case s4 => exact zn.out); rintro e w' ⟨rfl, ⟨nd, rfl⟩⟩) | (go_at_call 23; (with_reducible refine (gradineref07_Words.calls k _ _ l0_2 _ _ l1_2 zj _ ?s1 ?s2 ?s3 ?s4 A6.out).mono ?_); (case s1 => exact pC (Kd.C_below HR0_2.out (qB2 HB zb ze))); (case s2 => exact HC0_2.out); (case s3 => exact pC (Kd.C_below HR1_2.out (qB2 HB zb ze))); (case s4 => exact HC1_2.out); rintro e w' ⟨rfl, ⟨nd, rfl⟩⟩))
 go_ret
 exact ⟨pE, qB2 HB zb ze⟩
end Go.Proofs.Ytekmchjlnekliaa.Q
