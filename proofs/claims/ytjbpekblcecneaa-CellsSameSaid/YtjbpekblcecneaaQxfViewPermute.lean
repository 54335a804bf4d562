-- By wip/gprint.py (this session's), out of the kit's print.py.
import Derived.Test.YtjbpekblcecneaaQx0
import Derived.Test.YtjbpekblcecneaaQxfLowViewRight
import Derived.Test.YtjbpekblcecneaaQxfShapePerm
namespace Go.Proofs.Ytjbpekblcecneaa.Q
open Go.RowKit Go.Proofs.YtjbpekblcecneaaW.PrintWords Go.Proofs.YtjbpekblcecneaaW.PrintLast Go.Proofs.YtjbpekblcecneaaW.PrintMore
attribute [local go_sem] max2_int min2_int max_two min_two max_three min_three max_four min_four   -- for this text's walks alone
set_option linter.unusedVariables false
set_option linter.unusedSimpArgs false

/-! ### view_Permute: function 21 -/
def view_Permute.l0 : Nat → List Int → List Int → List Int → Int → Int → Int → List Int → List Int → Option (Int × List Int × List Int × Int)
 | 0, _, _, _, _, _, _, _, _ => none
 | k + 1, x6, x8, x26, x27, x28, zn, x159001, zh => if x28 < x27 then (if 0 ≤ x28 then (if x28 < (x26.length : Int) then (if 0 ≤ (rd x26 x28) then (if (rd x26 x28) < (zh.length : Int) then (if x8.length < 17592186044416 then (view_Permute.l0 k x6 (x8 ++ [rd zh (rd x26 x28)]) x26 x27 (wrap64 (x28 + 1)) zn x159001 zh) else (none)) else (none)) else (none)) else (none)) else (none)) else (some (zn, x6, x8, 0))
def view_Permute.f (k : Nat) (a0_0 : Int) (l0_1 : List Int) (l0_2 : List Int) (l1 : List Int) : Option (Int × List Int × List Int × Int) := (view_right.f k a0_0 l0_1 l0_2).bind fun zt => (if zt = true then ((shape_Perm.f k l0_1 l1).bind fun bt161 => (if bt161.2 = 0 then (view_Permute.l0 k bt161.1 ([] : List Int) l1 (l1.length : Int) 0 a0_0 l0_1 l0_2) else (some (0, ([] : List Int), ([] : List Int), bt161.2)))) else (some (0, ([] : List Int), ([] : List Int), 1)))
set_option maxHeartbeats 8000000 in
set_option maxRecDepth 100000 in
theorem view_Permute.calls (k : Nat) (a0_0 : Int) (A0_1 : Option Addr) (c0_1 : Nat) (l0_1 : List Int) (A0_2 : Option Addr) (c0_2 : Nat) (l0_2 : List Int) (A1 : Option Addr) (c1 : Nat) (l1 : List Int) (r1 : Int) (r2 : List Int) (r3 : List Int) (r4 : Int) (w : World) (hr0_1 : Kd.C (Kd.int .i64) w A0_1 l0_1.length l0_1) (hc0_1 : l0_1.length ≤ c0_1) (hr0_2 : Kd.C (Kd.int .i64) w A0_2 l0_2.length l0_2) (hc0_2 : l0_2.length ≤ c0_2) (hr1 : Kd.C (Kd.int .i64) w A1 l1.length l1) (hc1 : l1.length ≤ c1) (h : view_Permute.f k a0_0 l0_1 l0_2 l1 = some (r1, r2, r3, r4)) :
  Calls Try.prog 21 #[.agg #[.int .i64 a0_0, .slice A0_1 l0_1.length c0_1, .slice A0_2 l0_2.length c0_2], .slice A1 l1.length c1] w fun e w' => ∃ v1_ v2_ : Value, e = .returned (.tuple #[.agg #[.int .i64 r1, v1_, v2_], .int .i64 r4]) ∧ Kd.R (Kd.int .i64) 3 w' w.heap.size (fun k_ => some k_ ≠ (v2_ : Value).ownBlock) v1_ r2 ∧ Kd.R (Kd.int .i64) 3 w' w.heap.size (fun k_ => some k_ ≠ (v1_ : Value).ownBlock) v2_ r3 ∧ Below w.heap.size w w' := by
 have hu24 := Try.underlying24
 have zi := aM hr0_1
 have zj := aM hc0_1
 clear hr0_1 hc0_1
 have zo := aM hr0_2
 have zu := aM hc0_2
 clear hr0_2 hc0_2
 have HR1 := aM hr1
 have HC1 := aM hc1
 clear hr1 hc1
 have HB := aM (Below.refl w.heap.size w)
 have H : ((view_right.f k a0_0 l0_1 l0_2).bind fun zt => (if zt = true then ((shape_Perm.f k l0_1 l1).bind fun bt161 => (if bt161.2 = 0 then (view_Permute.l0 k bt161.1 ([] : List Int) l1 (l1.length : Int) 0 a0_0 l0_1 l0_2) else (some (0, ([] : List Int), ([] : List Int), bt161.2)))) else (some (0, ([] : List Int), ([] : List Int), 1)))) = some (r1, r2, r3, r4) := h
 clear h
 replace H := Option.bind_eq_some_iff.mp H
 obtain ⟨zt, A30, H⟩ := H
 try dsimp only at H
 have A3 := aM A30
 clear A30
 by_cases c4 : zt = true
 rotate_left
 ·replace c4 := Bool.eq_false_iff.mpr c4
  subst c4
  rw [if_neg (show ¬ (false = true) by decide)] at H
  simp only [Option.some.injEq, Prod.mk.injEq] at H
  obtain ⟨rfl, rfl, rfl, rfl⟩ := H
  go_enter Try.func21, Try.ntmps21
  go_wp2_with (first | ((with_reducible refine gate_dst (N := 2) rfl ?_); refine box_event ?hg (N := 2) ?hd (cs := #[.int .i64 a0_0, .slice A0_1 l0_1.length c0_1, .slice A0_2 l0_2.length c0_2]) (t := 24) ?hr ?_; (case hd => rfl); (case hg => rfl); (case hr => first | (go_simp; done) | (go_simp; rfl)); intro zp hg w36 hbox hb; have za := aM (hbox); have zk := gE (w := w) hg (qB HB); have zc := zk; replace HB := bS (qB HB) hb; clear hb hbox hg) | ((with_reducible refine gate_dst (N := 4) rfl ?_); refine box_event ?hg (N := 4) ?hd (cs := #[.int .i64 0, .slice none 0 0, .slice none 0 0]) (t := 24) ?hr ?_; (case hd => rfl); (case hg => rfl); (case hr => first | (go_simp; done) | (go_simp; rfl)); intro zg hg w37 hbox hb; have zb := aM (hbox); have zl := gE (w := w) hg (qB1 HB zc); have zf := zl; replace HB := bS (qB1 HB zc) hb; have zd := nL hg za; have ze := nG hg za; replace za := bK za hb; clear hb hbox hg; have hnb38 := zd.out; have hnc38 := ze.out; obtain ⟨hcz39_0, hcz39_1, hcz39_2, hfz39_0, hfz39_1, hfz39_2⟩ := blk3 za.out) | ((with_reducible refine gate_callee (f := 39) rfl ?_); refine goesL_ (some 12) rfl rfl Try.func39 (by kernel_rfl) rfl #[.agg #[.int .i64 a0_0, .slice A0_1 l0_1.length c0_1, .slice A0_2 l0_2.length c0_2]] rfl pA ?_; (with_reducible refine (view_right.calls k a0_0 _ _ l0_1 _ _ l0_2 false _ ?s1 ?s2 ?s3 ?s4 A3.out).mono ?_); (case s1 => exact sC zi HB); (case s2 => exact zj.out); (case s3 => exact sC zo HB); (case s4 => exact zu.out); rintro e w40 ⟨rfl, hb⟩; refine ⟨_, rfl, ?_⟩; replace za := bK za hb; replace zb := bK zb hb; replace HB := bS (qB2 HB zc zf) hb; (try clear hb); (try clear hk); (try clear hi); obtain ⟨hcz41_0, hcz41_1, hcz41_2, hfz41_0, hfz41_1, hfz41_2⟩ := blk3 zb.out))
  refine bodyPost_ret (results_ct rfl _ _ zg 24 #[.int .i64 0, .slice none 0 0, .slice none 0 0] (0, 0) _ rfl (by exact P3 zb) Try.underlying24 rfl (by kernel_rfl)) rfl ?_
  exact ⟨_, _, pE, pN, pN, qB2 HB zc zf⟩

 subst c4
 rw [if_pos rfl] at H
 replace H := Option.bind_eq_some_iff.mp H
 obtain ⟨⟨zq, zm⟩, A50, H⟩ := H
 try dsimp only at H
 have A5 := aM A50
 clear A50
 by_cases c6 : zm = 0
 rotate_left
 ·rw [if_neg c6] at H
  have zy : (zm == 0) = false := beq_eq_false_iff_ne.mpr c6
  have zz : (zm != 0) = true := bne_iff_ne.mpr c6
  simp only [Option.some.injEq, Prod.mk.injEq] at H
  obtain ⟨rfl, rfl, rfl, rfl⟩ := H
  go_enter Try.func21, Try.ntmps21
  go_wp2_with (first | ((with_reducible refine gate_dst (N := 2) rfl ?_); refine box_event ?hg (N := 2) ?hd (cs := #[.int .i64 a0_0, .slice A0_1 l0_1.length c0_1, .slice A0_2 l0_2.length c0_2]) (t := 24) ?hr ?_; (case hd => rfl); (case hg => rfl); (case hr => first | (go_simp; done) | (go_simp; rfl)); intro zp hg w28 hbox hb; have za := aM (hbox); have zk := gE (w := w) hg (qB HB); have zc := zk; replace HB := bS (qB HB) hb; clear hb hbox hg) | ((with_reducible refine gate_dst (N := 4) rfl ?_); refine box_event ?hg (N := 4) ?hd (cs := #[.int .i64 0, .slice none 0 0, .slice none 0 0]) (t := 24) ?hr ?_; (case hd => rfl); (case hg => rfl); (case hr => first | (go_simp; done) | (go_simp; rfl)); intro zg hg w29 hbox hb; have zb := aM (hbox); have zl := gE (w := w) hg (qB1 HB zc); have zf := zl; replace HB := bS (qB1 HB zc) hb; have zd := nL hg za; have ze := nG hg za; replace za := bK za hb; clear hb hbox hg; have hnb30 := zd.out; have hnc30 := ze.out; obtain ⟨hcz31_0, hcz31_1, hcz31_2, hfz31_0, hfz31_1, hfz31_2⟩ := blk3 za.out) | ((with_reducible refine gate_callee (f := 39) rfl ?_); refine goesL_ (some 12) rfl rfl Try.func39 (by kernel_rfl) rfl #[.agg #[.int .i64 a0_0, .slice A0_1 l0_1.length c0_1, .slice A0_2 l0_2.length c0_2]] rfl pA ?_; (with_reducible refine (view_right.calls k a0_0 _ _ l0_1 _ _ l0_2 true _ ?s1 ?s2 ?s3 ?s4 A3.out).mono ?_); (case s1 => exact sC zi HB); (case s2 => exact zj.out); (case s3 => exact sC zo HB); (case s4 => exact zu.out); rintro e w32 ⟨rfl, hb⟩; refine ⟨_, rfl, ?_⟩; replace za := bK za hb; replace zb := bK zb hb; replace HB := bS (qB2 HB zc zf) hb; (try clear hb); (try clear hk); (try clear hi); obtain ⟨hcz33_0, hcz33_1, hcz33_2, hfz33_0, hfz33_1, hfz33_2⟩ := blk3 za.out) | ((with_reducible refine gate_callee (f := 46) rfl ?_); refine goesL_ (some 19) rfl rfl Try.func46 (by kernel_rfl) rfl #[.slice A0_1 l0_1.length c0_1, .slice A1 l1.length c1] rfl pA ?_; (with_reducible refine (shape_Perm.calls k _ _ l0_1 _ _ l1 zq zm _ ?s1 ?s2 ?s3 ?s4 A5.out).mono ?_); (case s1 => exact sC zi HB); (case s2 => exact zj.out); (case s3 => exact sC HR1 HB); (case s4 => exact HC1.out); rintro e w34 ⟨zw, rfl, ho0, hb⟩; refine ⟨_, rfl, ?_⟩; have zx := aM (Kd.R_lower ho0 (below_size (qB2 HB zc zf))); replace za := bK za hb; replace zb := bK zb hb; replace HB := bS (qB2 HB zc zf) hb; (try clear hb); (try clear hk); (try clear hi); (try clear ho0); obtain ⟨hcz35_0, hcz35_1, hcz35_2, hfz35_0, hfz35_1, hfz35_2⟩ := blk3 zb.out))
  refine bodyPost_ret (results_ct rfl _ _ zg 24 #[.int .i64 0, .slice none 0 0, .slice none 0 0] (0, 0) _ rfl (by exact P3 zb) Try.underlying24 rfl (by kernel_rfl)) rfl ?_
  exact ⟨_, _, pE, pN, pN, qB2 HB zc zf⟩
 rw [if_pos c6] at H
 have zy : (zm == 0) = true := beq_iff_eq.mpr c6
 have zz : (zm != 0) = false := bne_eq_false_iff_eq.mpr c6
 clear c6
 have H' := aM H
 clear H
 go_enter Try.func21, Try.ntmps21
 go_wp2_with (first | ((with_reducible refine gate_dst (N := 2) rfl ?_); refine box_event ?hg (N := 2) ?hd (cs := #[.int .i64 a0_0, .slice A0_1 l0_1.length c0_1, .slice A0_2 l0_2.length c0_2]) (t := 24) ?hr ?_; (case hd => rfl); (case hg => rfl); (case hr => first | (go_simp; done) | (go_simp; rfl)); intro zp hg w7 hbox hb; have za := aM (hbox); have zk := gE (w := w) hg (qB HB); have zc := zk; replace HB := bS (qB HB) hb; clear hb hbox hg) | ((with_reducible refine gate_dst (N := 4) rfl ?_); refine box_event ?hg (N := 4) ?hd (cs := #[.int .i64 0, .slice none 0 0, .slice none 0 0]) (t := 24) ?hr ?_; (case hd => rfl); (case hg => rfl); (case hr => first | (go_simp; done) | (go_simp; rfl)); intro zg hg w8 hbox hb; have zb := aM (hbox); have zl := gE (w := w) hg (qB1 HB zc); have zf := zl; replace HB := bS (qB1 HB zc) hb; have zd := nL hg za; have ze := nG hg za; replace za := bK za hb; clear hb hbox hg; have hnb9 := zd.out; have hnc9 := ze.out; obtain ⟨hcz10_0, hcz10_1, hcz10_2, hfz10_0, hfz10_1, hfz10_2⟩ := blk3 za.out) | ((with_reducible refine gate_callee (f := 39) rfl ?_); refine goesL_ (some 12) rfl rfl Try.func39 (by kernel_rfl) rfl #[.agg #[.int .i64 a0_0, .slice A0_1 l0_1.length c0_1, .slice A0_2 l0_2.length c0_2]] rfl pA ?_; (with_reducible refine (view_right.calls k a0_0 _ _ l0_1 _ _ l0_2 true _ ?s1 ?s2 ?s3 ?s4 A3.out).mono ?_); (case s1 => exact sC zi HB); (case s2 => exact zj.out); (case s3 => exact sC zo HB); (case s4 => exact zu.out); rintro e w11 ⟨rfl, hb⟩; refine ⟨_, rfl, ?_⟩; replace za := bK za hb; replace zb := bK zb hb; replace HB := bS (qB2 HB zc zf) hb; (try clear hb); (try clear hk); (try clear hi); obtain ⟨hcz12_0, hcz12_1, hcz12_2, hfz12_0, hfz12_1, hfz12_2⟩ := blk3 za.out) | ((with_reducible refine gate_callee (f := 46) rfl ?_); refine goesL_ (some 19) rfl rfl Try.func46 (by kernel_rfl) rfl #[.slice A0_1 l0_1.length c0_1, .slice A1 l1.length c1] rfl pA ?_; (with_reducible refine (shape_Perm.calls k _ _ l0_1 _ _ l1 zq zm _ ?s1 ?s2 ?s3 ?s4 A5.out).mono ?_); (case s1 => exact sC zi HB); (case s2 => exact zj.out); (case s3 => exact sC HR1 HB); (case s4 => exact HC1.out); rintro e w13 ⟨zw, rfl, ho0, hb⟩; refine ⟨_, rfl, ?_⟩; have zx := aM (Kd.R_lower ho0 (below_size (qB2 HB zc zf))); replace za := bK za hb; replace zb := bK zb hb; replace HB := bS (qB2 HB zc zf) hb; (try clear hb); (try clear hk); (try clear hi); (try clear ho0)))
 go_loopg [8, 28] k (fun kq v8 v28 w' => ∃ (x8_1 : List Int) (x28_1 : Int), v28 = .int .i64 x28_1 ∧ Aside0 (view_Permute.l0 kq zq x8_1 l1 (l1.length : Int) x28_1 a0_0 l0_1 l0_2 = some (r1, r2, r3, r4)) ∧ Aside0 (kq ≤ k) ∧ Aside0 (Kd.R (Kd.int .i64) 3 w' w.heap.size (fun k_ => some k_ ≠ (v8 : Value).ownBlock) zw zq) ∧ Aside0 (Kd.R (Kd.int .i64) 3 w' w.heap.size (fun k_ => some k_ ≠ (zw : Value).ownBlock) v8 x8_1) ∧ Aside0 (w'.heap[zp]? = some (.cells #[.int .i64 a0_0, (.slice A0_1 l0_1.length c0_1), (.slice A0_2 l0_2.length c0_2)] 24 (0, 0))) ∧ Aside0 (w'.heap[zg]? = some (.cells #[.int .i64 0, (.slice none 0 0), (.slice none 0 0)] 24 (0, 0))) ∧ Aside0 (Below w.heap.size w w'))
 case atStart => exact ⟨(([] : List Int)), (0), (pF), H', ⟨Nat.le_refl _⟩, ⟨by (with_reducible repeat (first | apply rA | apply rN | apply rD)); exact Kd.R_mono zx.out (fun _ hk => (by simp [Value.ownBlock]))⟩, ⟨pN⟩, ⟨pK za.out⟩, ⟨pK zb.out⟩, ⟨qB2 HB zc zf⟩⟩
 case round =>
  clear H'
  try clear c1
  try clear c4
  try clear zy
  try clear zz
  try clear hcz10_0 hcz10_1 hcz10_2 hcz12_0 hcz12_1 hcz12_2 hfz10_0 hfz10_1 hfz10_2 hfz12_0 hfz12_1 hfz12_2
  obtain ⟨x8_1, x28_1, rfl, HA, HK1, zr, zs, za, zb, HB⟩ := hrel
  cases gk with
  | zero => exact absurd HA.out (by simp [view_Permute.l0])
  | succ k1 =>
   have H := HA.out
   clear HA
   simp only [view_Permute.l0] at H
   by_cases c14 : x28_1 < (l1.length : Int)
   rotate_left
   ·rw [if_neg c14] at H
    have c14b0 : decide (x28_1 < (l1.length : Int)) = false := decide_eq_false c14
    clear c14
    simp only [Option.some.injEq, Prod.mk.injEq] at H
    obtain ⟨rfl, rfl, rfl, rfl⟩ := H
    have hnb23 := zd.out
    have hnc23 := ze.out
    obtain ⟨hcz24_0, hcz24_1, hcz24_2, hfz24_0, hfz24_1, hfz24_2⟩ := blk3 za.out
    obtain ⟨Ao25, co25, eo25⟩ := Kd.R_slice zs.out
    subst eo25
    obtain ⟨Ao26, co26, eo26⟩ := Kd.R_slice zr.out
    subst eo26
    obtain ⟨hcz27_0, hcz27_1, hcz27_2, hfz27_0, hfz27_1, hfz27_2⟩ := blk3 zb.out
    go_wp2
    refine bodyPost_ret (results_ct rfl _ _ zg 24 #[.int .i64 a0_0, .slice Ao26 zq.length co26, .slice Ao25 x8_1.length co25] (0, 0) _ rfl (by exact P3 zb) Try.underlying24 rfl (by kernel_rfl)) rfl ?_
    exact ⟨_, _, pE, by (with_reducible repeat (first | apply rA | apply rN | apply rD)); exact F3 zr zb (fun _ hk => hk.1), by (with_reducible repeat (first | apply rA | apply rN | apply rD)); exact F3 zs zb (fun _ hk => hk.1), qB2 HB zc zf⟩
   rw [if_pos c14] at H
   have c14b0 : decide (x28_1 < (l1.length : Int)) = true := decide_eq_true c14
   clear c14
   by_cases c15 : 0 ≤ x28_1
   rotate_left
   ·rw [if_neg c15] at H
    exact absurd H (by simp)
   rw [if_pos c15] at H
   have c15b0 : decide (0 ≤ x28_1) = true := decide_eq_true c15
   clear c15
   by_cases c16 : x28_1 < (l1.length : Int)
   rotate_left
   ·rw [if_neg c16] at H
    exact absurd H (by simp)
   rw [if_pos c16] at H
   have c16b0 : decide (x28_1 < (l1.length : Int)) = true := decide_eq_true c16
   clear c16
   by_cases c17 : 0 ≤ (rd l1 x28_1)
   rotate_left
   ·rw [if_neg c17] at H
    exact absurd H (by simp)
   rw [if_pos c17] at H
   have c17b0 : decide (0 ≤ (rd l1 x28_1)) = true := decide_eq_true c17
   clear c17
   by_cases c18 : (rd l1 x28_1) < (l0_2.length : Int)
   rotate_left
   ·rw [if_neg c18] at H
    exact absurd H (by simp)
   rw [if_pos c18] at H
   have c18b0 : decide ((rd l1 x28_1) < (l0_2.length : Int)) = true := decide_eq_true c18
   clear c18
   by_cases c19 : x8_1.length < 17592186044416
   rotate_left
   ·rw [if_neg c19] at H
    exact absurd H (by simp)
   rw [if_pos c19] at H
   have LMc19 := aM c19
   clear c19
   obtain ⟨z0, zv⟩ : ∃ y_ : List Int, y_ = (x8_1 ++ [rd l0_2 (rd l1 x28_1)]) := ⟨_, rfl⟩
   replace H : (view_Permute.l0 k1 zq z0 l1 (l1.length : Int) (wrap64 (x28_1 + 1)) a0_0 l0_1 l0_2) = some (r1, r2, r3, r4) := pH zv H
   have Ny167 := aM zv
   clear zv
   have H' := aM H
   clear H
   have p165 : 0 ≤ (x28_1 : Int) := of_decide_eq_true pD
   have q165 : x28_1 < (l1.length : Int) := of_decide_eq_true pD
   obtain ⟨ad165, e165, hx165_0⟩ := Kd.at_int HR1.out x28_1 p165 q165
   cases e165
   replace hx165_0 := (HB.out.cell (World.block_lt_of_cell? w _ hx165_0)).trans hx165_0
   replace p165 := eq_true p165
   replace q165 := eq_true q165
   have hnb20 := zd.out
   have hnc20 := ze.out
   obtain ⟨hcz21_0, hcz21_1, hcz21_2, hfz21_0, hfz21_1, hfz21_2⟩ := blk3 za.out
   have p166 : 0 ≤ ((rd l1 x28_1) : Int) := of_decide_eq_true pD
   have q166 : (rd l1 x28_1) < (l0_2.length : Int) := of_decide_eq_true pD
   obtain ⟨ad166, e166, hx166_0⟩ := Kd.at_int zo.out (rd l1 x28_1) p166 q166
   cases e166
   replace hx166_0 := (HB.out.cell (World.block_lt_of_cell? w _ hx166_0)).trans hx166_0
   replace p166 := eq_true p166
   replace q166 := eq_true q166
   go_wp2_with (first | ((with_reducible refine gate_builtin (b := .append) (xs := #[.tmp 32, .tmp 38]) rfl ?_); at_builtin; refine Kd.R_append (Kd.int .i64) (w0 := w) w.heap.size rfl (.tmp 32) (.tmp 38) 22 3 (.int .i64 0) 8 rfl Try.underlying22 info3 rfl (by decide) (by omega) u8 x8_1 (rd l0_2 (rd l1 x28_1)) [.int .i64 (rd l0_2 (rd l1 x28_1))] (fun k_ => some k_ ≠ (zw : Value).ownBlock) (fun _ => False) rfl rfl ?aP (fun _ hk => hk.elim) ?aF ?aO ?aB ?aS ?aL ?_; (case aP => exact rfl); (case aB => exact (qB2 HB zc zf)); (case aF => exact (fun k_ hk => Kd.fresh' (Kd.R_lt (pR zr.out)) k_ hk)); (case aO => exact (pR zs.out)); (case aS => exact (below_size (qB2 HB zc zf))); (case aL => have := LMc19.out; omega); intro v168 w22 ho hb hg hat; rw [← Ny167.out] at ho; replace zr := aM (Kd.R_after (ok := (fun _ => True)) (by (with_reducible repeat (first | apply rA | apply rN | apply rD)); exact Kd.R_mono zr.out (fun _ hk => ⟨trivial, hk⟩)) hg hat); replace za := aM (blk_grown (g := zp) (pK za.out) hg (Kd.R_ne zs.out za.out (by decide))); replace zb := aM (blk_grown (g := zg) (pK zb.out) hg (Kd.R_ne zs.out zb.out (by decide))); replace HB := aM (hb); have HO169 := aM (ho); clear zs; clear ho hb hg hat))
   go_roundg k1
   case measure => have := HK1.out; omega
   case rel => exact ⟨(z0), (wrap64 (x28_1 + 1)), (pF), H', ⟨by have := HK1.out; omega⟩, ⟨by (with_reducible repeat (first | apply rA | apply rN | apply rD)); exact Kd.R_mono zr.out (fun _ hk => hk.2)⟩, ⟨pR HO169.out⟩, ⟨pK za.out⟩, ⟨pK zb.out⟩, ⟨qB2 HB zc zf⟩⟩
end Go.Proofs.Ytjbpekblcecneaa.Q
