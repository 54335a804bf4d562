-- By wip/gprint.py (this session's), out of the kit's print.py.
import Derived.Test.YtekmchjlnekliaaQx0
namespace Go.Proofs.Ytekmchjlnekliaa.Q
open Go.RowKit Go.Proofs.YtekmchjlnekliaaW.PrintWords Go.Proofs.YtekmchjlnekliaaW.PrintLast Go.Proofs.YtekmchjlnekliaaW.PrintMore
attribute [local go_sem] max2_int min2_int max_two min_two max_three min_three max_four min_four   -- for this text's walks alone
set_option linter.unusedVariables false
set_option linter.unusedSimpArgs false

/-! ### bank_copied: function 22 -/
def bank_copied.f (a0_0 : Bool) (l0_1 : List Int) (l0_2 : List Int) : Option (Bool × List Int × List Int) := (some (([] : List Int) : List Int)).bind fun zl => (if zl.length + l0_1.length < 17592186044416 then ((some (([] : List Int) : List Int)).bind fun zk => (if zk.length + l0_2.length < 17592186044416 then (some (a0_0, (zl ++ l0_1), (zk ++ l0_2))) else (none))) else (none))
def bank_copied.T1 : Bool × List (List Nat × List Nat) := (true, [([], []), ([0], [0]), ([], []), ([], []), ([3], [3]), ([2, 4], [2, 4]), ([], []), ([], []), ([7], [7]), ([6, 8, 5], [6, 8]), ([1, 5, 9], [1, 5, 9]), ([10, 9, 0, 1, 2, 3, 4, 5, 6, 7, 8, 9, 10], [10])])
def bank_copied.B1 : List Nat := [0, 1, 0, 0, 8, 28, 0, 0, 128, 508, 1023, 2047]
theorem bank_copied.tab1 : rtab .any (opsOf Try.f22 1) = bank_copied.T1 := by kernel_rfl
theorem bank_copied.bits1 : waitsOk bank_copied.T1.2 bank_copied.B1 = true := by kernel_rfl
set_option maxHeartbeats 8000000 in
set_option maxRecDepth 100000 in
theorem bank_copied.calls (a0_0 : Bool) (A0_1 : Option Addr) (c0_1 : Nat) (l0_1 : List Int) (A0_2 : Option Addr) (c0_2 : Nat) (l0_2 : List Int) (r1 : Bool) (r2 : List Int) (r3 : List Int) (w : World) (hr0_1 : Kd.C (Kd.int .u64) w A0_1 l0_1.length l0_1) (hc0_1 : l0_1.length ≤ c0_1) (hr0_2 : Kd.C (Kd.int .u64) w A0_2 l0_2.length l0_2) (hc0_2 : l0_2.length ≤ c0_2) (h : bank_copied.f a0_0 l0_1 l0_2 = some (r1, r2, r3)) :
  Calls Try.prog 22 #[.agg #[.bool a0_0, .slice A0_1 l0_1.length c0_1, .slice A0_2 l0_2.length c0_2]] w fun e w' => ∃ v1_ v2_ : Value, e = .returned (.agg #[.bool r1, v1_, v2_]) ∧ Kd.R (Kd.int .u64) 41 w' w.heap.size (fun k_ => some k_ ≠ (v2_ : Value).ownBlock) v1_ r2 ∧ Kd.R (Kd.int .u64) 41 w' w.heap.size (fun k_ => some k_ ≠ (v1_ : Value).ownBlock) v2_ r3 ∧ Below w.heap.size w w' := by
 have hu40 := Try.underlying40
 have zt := aM hr0_1
 have HC0_1 := aM hc0_1
 clear hr0_1 hc0_1
 have HR0_2 := aM hr0_2
 have HC0_2 := aM hc0_2
 clear hr0_2 hc0_2
 have HB := aM (Below.refl w.heap.size w)
 have H : ((some (([] : List Int) : List Int)).bind fun zl => (if zl.length + l0_1.length < 17592186044416 then ((some (([] : List Int) : List Int)).bind fun zk => (if zk.length + l0_2.length < 17592186044416 then (some (a0_0, (zl ++ l0_1), (zk ++ l0_2))) else (none))) else (none))) = some (r1, r2, r3) := h
 clear h
 obtain ⟨zl, zu⟩ : ∃ y_ : List Int, y_ = (([] : List Int)) := ⟨_, rfl⟩
 replace H : (if zl.length + l0_1.length < 17592186044416 then ((some (([] : List Int) : List Int)).bind fun zk => (if zk.length + l0_2.length < 17592186044416 then (some (a0_0, (zl ++ l0_1), (zk ++ l0_2))) else (none))) else (none)) = some (r1, r2, r3) := pH zu H
 have zr := aM zu
 clear zu
 by_cases c2 : zl.length + l0_1.length < 17592186044416
 rotate_left
 ·rw [if_neg c2] at H
  exact absurd H (by simp)

 rw [if_pos c2] at H
 have z0 := aM c2
 clear c2
 obtain ⟨zs, zv⟩ : ∃ y_ : List Int, y_ = (zl ++ l0_1) := ⟨_, rfl⟩
 replace H : ((some (([] : List Int) : List Int)).bind fun zk => (if zk.length + l0_2.length < 17592186044416 then (some (a0_0, zs, (zk ++ l0_2))) else (none))) = some (r1, r2, r3) := pH zv H
 have zw := aM zv
 clear zv
 obtain ⟨zk, zx⟩ : ∃ y_ : List Int, y_ = (([] : List Int)) := ⟨_, rfl⟩
 replace H : (if zk.length + l0_2.length < 17592186044416 then (some (a0_0, zs, (zk ++ l0_2))) else (none)) = some (r1, r2, r3) := pH zx H
 have zo := aM zx
 clear zx
 by_cases c3 : zk.length + l0_2.length < 17592186044416
 rotate_left
 ·rw [if_neg c3] at H
  exact absurd H (by simp)
 rw [if_pos c3] at H
 have LMc3 := aM c3
 clear c3
 obtain ⟨z1, zy⟩ : ∃ y_ : List Int, y_ = (zk ++ l0_2) := ⟨_, rfl⟩
 replace H : (some (a0_0, zs, z1)) = some (r1, r2, r3) := pH zy H
 have Ny119 := aM zy
 clear zy
 simp only [Option.some.injEq, Prod.mk.injEq] at H
 obtain ⟨rfl, rfl, rfl⟩ := H
 go_enter Try.func22, Try.ntmps22
 try go_wp2_with (first | ((with_reducible refine gate_dst (N := 1) rfl ?_); refine box_event ?hg (N := 1) ?hd (cs := #[.bool a0_0, .slice A0_1 l0_1.length c0_1, .slice A0_2 l0_2.length c0_2]) (t := 40) ?hr ?_; (case hd => rfl); (case hg => rfl); (case hr => first | (go_simp; done) | (go_simp; rfl)); intro zi hg w4 hbox hb; have za := aM (hbox); have GW108 := gE (w := w) hg (qB HB); have zd := GW108; replace HB := bS (qB HB) hb; clear hb hbox hg) | ((with_reducible refine gate_dst (N := 2) rfl ?_); refine box_event ?hg (N := 2) ?hd (cs := #[.bool false, .slice none 0 0, .slice none 0 0]) (t := 40) ?hr ?_; (case hd => rfl); (case hg => rfl); (case hr => first | (go_simp; done) | (go_simp; rfl)); intro zf hg w5 hbox hb; have zb := aM (hbox); have GW109 := gE (w := w) hg (qB1 HB zd); have ze := GW109; replace HB := bS (qB1 HB zd) hb; have zc := nL hg za; have zm := nG hg za; replace za := bK za hb; clear hb hbox hg))
 replace za := aM (blk_drew za.out)
 replace zb := aM (blk_drew zb.out)
 replace HB := aM (below_drew1 HB.out)
 refine start_ (n := 12) (S := fun w' => w'.cell? ⟨zi, 0, none⟩ = some (.bool a0_0) ∧ w'.cell? ⟨zi, 1, none⟩ = some (.slice A0_1 l0_1.length c0_1) ∧ w'.cell? ⟨zi, 2, none⟩ = some (.slice A0_2 l0_2.length c0_2)) (ds := []) (bm 12 0) (by kernel_rfl) rfl rfl (h3 za) (fun hHeld => ?_); refine with_tabW bank_copied.tab1 bank_copied.bits1 (fun HT_ HW_ => ?_)
 generalize w5.drew = w6 at za zb HB hHeld ⊢
 refine pP (i := 0) (N := some 3) (bm 12 1) rfl rfl HT_.out ?_
 refine pP (i := 3) (N := some 6) (bm 12 9) rfl rfl HT_.out ?_
 refine pP (i := 7) (N := some 10) (bm 12 137) rfl rfl HT_.out ?_
 refine pT (i := 1) (N := some 4) (bm 12 139) rfl rfl HT_.out HW_.out hHeld (by rintro w' ⟨s0, s1, s2⟩; go_simp; with_reducible rfl) ?_
 refine pT (i := 4) (N := some 7) (bm 12 155) rfl rfl HT_.out HW_.out hHeld (by rintro w' ⟨s0, s1, s2⟩; go_simp; with_reducible rfl) ?_
 refine pT (i := 8) (N := some 11) (bm 12 411) rfl rfl HT_.out HW_.out hHeld (by rintro w' ⟨s0, s1, s2⟩; go_simp; with_reducible rfl) ?_
 refine join_ (σ := Value × Value × Value) 3 (bm 12 511) (fun s_ => [(5, s_.1), (8, s_.2.1), (9, s_.2.2)]) (fun s_ w' => (w'.cell? ⟨zi, 0, none⟩ = some (.bool a0_0) ∧ w'.cell? ⟨zi, 1, none⟩ = some (.slice A0_1 l0_1.length c0_1) ∧ w'.cell? ⟨zi, 2, none⟩ = some (.slice A0_2 l0_2.length c0_2)) ∧ (Kd.R (Kd.int .u64) 41 w' w.heap.size (fun k_ => some k_ ≠ (s_.2.2 : Value).ownBlock) s_.2.1 zs) ∧ (Kd.R (Kd.int .u64) 41 w' w.heap.size (fun k_ => some k_ ≠ (s_.2.1 : Value).ownBlock) s_.2.2 zk) ∧ (w'.heap[zi]? = some (.cells #[.bool a0_0, .slice A0_1 l0_1.length c0_1, .slice A0_2 l0_2.length c0_2] 40 (0, 0))) ∧ (w'.heap[zf]? = some (.cells #[.bool false, .slice none 0 0, .slice none 0 0] 40 (0, 0))) ∧ (Below w.heap.size w w')) ?_ ?_
 rotate_left
 ·intro hCont
  refine two_ (i := 2) (j := 6) (Ni := some 5) (Nj := some 9) (bm 12 415) (bm 12 475) rfl rfl rfl rfl (two_of HT_.out (by kernel_rfl)) (by decide) (by decide) (fun K hK => ?_) (fun K hK => ?_)
  ·skip
   refine Kd.R_lit_step (Kd.int .u64) _ 41 ?hg (N := 5) ?hd (xs := ([] : List Int)) (inner := []) (ok := fun _ => True) (okp := fun _ => True) ?hr ?hp (fun _ hk => hk) trivial (Below.refl _ _) (Nat.le_refl _) (by simp) ?_; (case hd => rfl); (case hg => rfl); (case hr => first | (go_simp; done) | (go_simp; rfl)); (case hp => exact (Reps.none _ _))
   intro zq w7 ho8 hb hg_ hnew_
   clear hg_ hnew_
   (first | rw [← zr.out] at ho8 | (simp only [Int.reduceToNat] at ho8; rw [← zr.out] at ho8))
   have zh := aM (Kd.R_lower ho8 (below_size (qB2 HB zd ze)))
   replace za := bK za hb
   replace zb := bK zb hb
   replace HB := bS (qB2 HB zd ze) hb
   clear hb ho8
   refine hK.out _ _ (h3 za) (fun hHeld => ?_)
   clear hK K
   refine norm_ (a' := ?_) ?_ ?_
   rotate_left
   ·show Act.put _ (some 5) _ = _
    simp only [Act.put, sP, i64_w, i32_w]
    rfl
   refine two_ (i := 5) (j := 6) (Ni := some 8) (Nj := some 9) (bm 12 447) (bm 12 479) rfl rfl rfl rfl (two_of HT_.out (by kernel_rfl)) (by decide) (by decide) (fun K hK => ?_) (fun K hK => ?_)
   ·skip
    refine Kd.R_append_rows_step (Kd.int .u64) (w0 := w) w.heap.size (by rfl) (.tmp 5) (.tmp 7) 38 41 (.int .u64 0) 8 rfl Try.underlying38 info41 rfl (by decide) (by omega) zq zl l0_1 _ _ _ (fun _ => True) (fun _ => False) rfl rfl ?aO ?aR (fun _ _ h => h) (fun _ h => h.elim) ?aF ?aB ?aS ?aL ?_
    (case aR => exact sC zt HB)
    (case aB => exact (qB2 HB zd ze))
    (case aF => exact (fun _ _ => trivial))
    (case aO => exact (pR zh.out))
    (case aS => exact (below_size (qB2 HB zd ze)))
    (case aL => have := z0.out; omega)
    intro zp w9 ho hb hg hat
    rw [← zw.out] at ho
    replace za := aM (blk_grown (g := zi) (pK za.out) hg (Kd.R_ne zh.out za.out (by decide)))
    replace zb := aM (blk_grown (g := zf) (pK zb.out) hg (Kd.R_ne zh.out zb.out (by decide)))
    replace HB := aM (hb)
    have zj := aM (ho)
    clear zh
    clear ho hb hg hat
    refine hK.out _ _ (h3 za) (fun hHeld => ?_)
    clear hK K
    refine norm_ (a' := ?_) ?_ ?_
    rotate_left
    ·show Act.put _ (some 8) _ = _
     simp only [Act.put, sP, i64_w, i32_w]
     rfl
    refine one_ (i := 6) (N := some 9) (bm 12 511) rfl rfl (one_of HT_.out (by kernel_rfl)) (by decide) (fun K hK => ?_)
    refine Kd.R_lit_step (Kd.int .u64) _ 41 ?hg (N := 9) ?hd (xs := ([] : List Int)) (inner := []) (ok := fun _ => True) (okp := fun _ => True) ?hr ?hp (fun _ hk => hk) trivial (Below.refl _ _) (Nat.le_refl _) (by simp) ?_; (case hd => rfl); (case hg => rfl); (case hr => first | (go_simp; done) | (go_simp; rfl)); (case hp => exact (Reps.none _ _))
    intro zn w10 ho11 hb hg_ hnew_
    clear hg_ hnew_
    (first | rw [← zo.out] at ho11 | (simp only [Int.reduceToNat] at ho11; rw [← zo.out] at ho11))
    have zg := aM (Kd.R_lower (Kd.R_new' ho11 (Kd.R_lt (pR zj.out))) (below_size (qB2 HB zd ze)))
    replace zj := eR zj ho11 hb
    replace za := bK za hb
    replace zb := bK zb hb
    replace HB := bS (qB2 HB zd ze) hb
    clear hb ho11
    refine hK.out _ _ (h3 za) (fun hHeld => ?_)
    clear hK K
    refine norm_ (a' := ?_) ?_ ?_
    rotate_left
    ·show Act.put _ (some 9) _ = _
     simp only [Act.put, sP, i64_w, i32_w]
     rfl
    exact norm_ (by simp only [putAll, Act.put, sP]) (hCont (zq, zp, zn) _ ⟨hHeld, (by (with_reducible repeat (first | apply rA | apply rN | apply rD)); exact Kd.R_mono zj.out (fun _ hk => hk.2)), (by (with_reducible repeat (first | apply rA | apply rN | apply rD)); exact Kd.R_mono zg.out (fun _ hk => hk.2)), (pK za.out), (pK zb.out), (qB2 HB zd ze)⟩)
   ·skip
    refine Kd.R_lit_step (Kd.int .u64) _ 41 ?hg (N := 9) ?hd (xs := ([] : List Int)) (inner := []) (ok := fun _ => True) (okp := fun _ => True) ?hr ?hp (fun _ hk => hk) trivial (Below.refl _ _) (Nat.le_refl _) (by simp) ?_; (case hd => rfl); (case hg => rfl); (case hr => first | (go_simp; done) | (go_simp; rfl)); (case hp => exact (Reps.none _ _))
    intro zn w9 ho10 hb hg_ hnew_
    clear hg_ hnew_
    (first | rw [← zo.out] at ho10 | (simp only [Int.reduceToNat] at ho10; rw [← zo.out] at ho10))
    have zg := aM (Kd.R_lower (Kd.R_new' ho10 (Kd.R_lt (pR zh.out))) (below_size (qB2 HB zd ze)))
    replace zh := eR zh ho10 hb
    replace za := bK za hb
    replace zb := bK zb hb
    replace HB := bS (qB2 HB zd ze) hb
    clear hb ho10
    refine hK.out _ _ (h3 za) (fun hHeld => ?_)
    clear hK K
    refine norm_ (a' := ?_) ?_ ?_
    rotate_left
    ·show Act.put _ (some 9) _ = _
     simp only [Act.put, sP, i64_w, i32_w]
     rfl
    refine one_ (i := 5) (N := some 8) (bm 12 511) rfl rfl (one_of HT_.out (by kernel_rfl)) (by decide) (fun K hK => ?_)
    refine Kd.R_append_rows_step (Kd.int .u64) (w0 := w) w.heap.size (by rfl) (.tmp 5) (.tmp 7) 38 41 (.int .u64 0) 8 rfl Try.underlying38 info41 rfl (by decide) (by omega) zq zl l0_1 _ _ _ (fun k_ => some k_ ≠ (zn : Value).ownBlock) (fun _ => False) rfl rfl ?aO ?aR (fun _ _ h => h) (fun _ h => h.elim) ?aF ?aB ?aS ?aL ?_
    (case aR => exact sC zt HB)
    (case aB => exact (qB2 HB zd ze))
    (case aF => exact (fun k_ hk => Kd.fresh' (Kd.R_lt (pR zg.out)) k_ hk))
    (case aO => exact (by (with_reducible repeat (first | apply rA | apply rN | apply rD)); exact Kd.R_mono zh.out (fun _ hk => hk.2)))
    (case aS => exact (below_size (qB2 HB zd ze)))
    (case aL => have := z0.out; omega)
    intro zp w11 ho hb hg hat
    rw [← zw.out] at ho
    replace za := aM (blk_grown (g := zi) (pK za.out) hg (Kd.R_ne zh.out za.out (by decide)))
    replace zb := aM (blk_grown (g := zf) (pK zb.out) hg (Kd.R_ne zh.out zb.out (by decide)))
    replace zg := aM (Kd.R_after (ok := (fun _ => True)) (pR zg.out) hg hat)
    replace HB := aM (hb)
    have zj := aM (ho)
    clear zh
    clear ho hb hg hat
    refine hK.out _ _ (h3 za) (fun hHeld => ?_)
    clear hK K
    refine norm_ (a' := ?_) ?_ ?_
    rotate_left
    ·show Act.put _ (some 8) _ = _
     simp only [Act.put, sP, i64_w, i32_w]
     rfl
    exact norm_ (by simp only [putAll, Act.put, sP]) (hCont (zq, zp, zn) _ ⟨hHeld, (pR zj.out), (by (with_reducible repeat (first | apply rA | apply rN | apply rD)); exact Kd.R_mono zg.out (fun _ hk => hk.2)), (pK za.out), (pK zb.out), (qB2 HB zd ze)⟩)
  ·skip
   refine Kd.R_lit_step (Kd.int .u64) _ 41 ?hg (N := 9) ?hd (xs := ([] : List Int)) (inner := []) (ok := fun _ => True) (okp := fun _ => True) ?hr ?hp (fun _ hk => hk) trivial (Below.refl _ _) (Nat.le_refl _) (by simp) ?_; (case hd => rfl); (case hg => rfl); (case hr => first | (go_simp; done) | (go_simp; rfl)); (case hp => exact (Reps.none _ _))
   intro zn w7 ho8 hb hg_ hnew_
   clear hg_ hnew_
   (first | rw [← zo.out] at ho8 | (simp only [Int.reduceToNat] at ho8; rw [← zo.out] at ho8))
   have zg := aM (Kd.R_lower ho8 (below_size (qB2 HB zd ze)))
   replace za := bK za hb
   replace zb := bK zb hb
   replace HB := bS (qB2 HB zd ze) hb
   clear hb ho8
   refine hK.out _ _ (h3 za) (fun hHeld => ?_)
   clear hK K
   refine norm_ (a' := ?_) ?_ ?_
   rotate_left
   ·show Act.put _ (some 9) _ = _
    simp only [Act.put, sP, i64_w, i32_w]
    rfl
   refine one_ (i := 2) (N := some 5) (bm 12 479) rfl rfl (one_of HT_.out (by kernel_rfl)) (by decide) (fun K hK => ?_)
   refine Kd.R_lit_step (Kd.int .u64) _ 41 ?hg (N := 5) ?hd (xs := ([] : List Int)) (inner := []) (ok := fun _ => True) (okp := fun _ => True) ?hr ?hp (fun _ hk => hk) trivial (Below.refl _ _) (Nat.le_refl _) (by simp) ?_; (case hd => rfl); (case hg => rfl); (case hr => first | (go_simp; done) | (go_simp; rfl)); (case hp => exact (Reps.none _ _))
   intro zq w9 ho10 hb hg_ hnew_
   clear hg_ hnew_
   (first | rw [← zr.out] at ho10 | (simp only [Int.reduceToNat] at ho10; rw [← zr.out] at ho10))
   have zh := aM (Kd.R_lower (Kd.R_new' ho10 (Kd.R_lt (pR zg.out))) (below_size (qB2 HB zd ze)))
   replace zg := eR zg ho10 hb
   replace za := bK za hb
   replace zb := bK zb hb
   replace HB := bS (qB2 HB zd ze) hb
   clear hb ho10
   refine hK.out _ _ (h3 za) (fun hHeld => ?_)
   clear hK K
   refine norm_ (a' := ?_) ?_ ?_
   rotate_left
   ·show Act.put _ (some 5) _ = _
    simp only [Act.put, sP, i64_w, i32_w]
    rfl
   refine one_ (i := 5) (N := some 8) (bm 12 511) rfl rfl (one_of HT_.out (by kernel_rfl)) (by decide) (fun K hK => ?_)
   refine Kd.R_append_rows_step (Kd.int .u64) (w0 := w) w.heap.size (by rfl) (.tmp 5) (.tmp 7) 38 41 (.int .u64 0) 8 rfl Try.underlying38 info41 rfl (by decide) (by omega) zq zl l0_1 _ _ _ (fun k_ => some k_ ≠ (zn : Value).ownBlock) (fun _ => False) rfl rfl ?aO ?aR (fun _ _ h => h) (fun _ h => h.elim) ?aF ?aB ?aS ?aL ?_
   (case aR => exact sC zt HB)
   (case aB => exact (qB2 HB zd ze))
   (case aF => exact (fun k_ hk => Kd.fresh' (Kd.R_lt (pR zg.out)) k_ hk))
   (case aO => exact (by (with_reducible repeat (first | apply rA | apply rN | apply rD)); exact Kd.R_mono zh.out (fun _ hk => hk.2)))
   (case aS => exact (below_size (qB2 HB zd ze)))
   (case aL => have := z0.out; omega)
   intro zp w11 ho hb hg hat
   rw [← zw.out] at ho
   replace za := aM (blk_grown (g := zi) (pK za.out) hg (Kd.R_ne zh.out za.out (by decide)))
   replace zb := aM (blk_grown (g := zf) (pK zb.out) hg (Kd.R_ne zh.out zb.out (by decide)))
   replace zg := aM (Kd.R_after (ok := (fun _ => True)) (pR zg.out) hg hat)
   replace HB := aM (hb)
   have zj := aM (ho)
   clear zh
   clear ho hb hg hat
   refine hK.out _ _ (h3 za) (fun hHeld => ?_)
   clear hK K
   refine norm_ (a' := ?_) ?_ ?_
   rotate_left
   ·show Act.put _ (some 8) _ = _
    simp only [Act.put, sP, i64_w, i32_w]
    rfl
   exact norm_ (by simp only [putAll, Act.put, sP]) (hCont (zq, zp, zn) _ ⟨hHeld, (pR zj.out), (by (with_reducible repeat (first | apply rA | apply rN | apply rD)); exact Kd.R_mono zg.out (fun _ hk => hk.2)), (pK za.out), (pK zb.out), (qB2 HB zd ze)⟩)
 rintro ⟨zq, zp, zn⟩ w12 ⟨hS_, h0_, h1_, h2_, h3_, h4_⟩
 have n0_ : Aside0 (Kd.R (Kd.int .u64) 41 w12 w.heap.size (fun k_ => some k_ ≠ (zn : Value).ownBlock) zp zs) := ⟨h0_⟩
 have n1_ : Aside0 (Kd.R (Kd.int .u64) 41 w12 w.heap.size (fun k_ => some k_ ≠ (zp : Value).ownBlock) zn zk) := ⟨h1_⟩
 have n2_ : Aside0 (w12.heap[zi]? = some (.cells #[.bool a0_0, .slice A0_1 l0_1.length c0_1, .slice A0_2 l0_2.length c0_2] 40 (0, 0))) := ⟨h2_⟩
 have n3_ : Aside0 (w12.heap[zf]? = some (.cells #[.bool false, .slice none 0 0, .slice none 0 0] 40 (0, 0))) := ⟨h3_⟩
 have n4_ : Aside0 (Below w.heap.size w w12) := ⟨h4_⟩
 clear za
 clear zb
 clear HB
 clear h0_ h1_ h2_ h3_ h4_
 have zj := n0_
 have zg := n1_
 have za := n2_
 have zb := n3_
 have HB := n4_
 clear n0_ n1_ n2_ n3_ n4_
 have hHeld : w12.cell? ⟨zi, 0, none⟩ = some (.bool a0_0) ∧ w12.cell? ⟨zi, 1, none⟩ = some (.slice A0_1 l0_1.length c0_1) ∧ w12.cell? ⟨zi, 2, none⟩ = some (.slice A0_2 l0_2.length c0_2) := hS_
 refine norm_ (a' := ?_) ?_ ?_
 rotate_left
 ·simp only [putAll, Act.put, sP]
  rfl
 refine one_ (i := 9) (N := some 12) (bm 12 1023) rfl rfl (one_of HT_.out (by kernel_rfl)) (by decide) (fun K hK => ?_)
 refine Kd.R_append_rows_step (Kd.int .u64) (w0 := w) w.heap.size (by rfl) (.tmp 9) (.tmp 11) 38 41 (.int .u64 0) 8 rfl Try.underlying38 info41 rfl (by decide) (by omega) zn zk l0_2 _ _ _ (fun k_ => some k_ ≠ (zp : Value).ownBlock) (fun _ => False) rfl rfl ?aO ?aR (fun _ _ h => h) (fun _ h => h.elim) ?aF ?aB ?aS ?aL ?_
 (case aR => exact sC HR0_2 HB)
 (case aB => exact (qB2 HB zd ze))
 (case aF => exact (fun k_ hk => Kd.fresh' (Kd.R_lt (pR zj.out)) k_ hk))
 (case aO => exact (pR zg.out))
 (case aS => exact (below_size (qB2 HB zd ze)))
 (case aL => have := LMc3.out; omega)
 intro v120 w13 ho hb hg hat
 rw [← Ny119.out] at ho
 replace za := aM (blk_grown (g := zi) (pK za.out) hg (Kd.R_ne zg.out za.out (by decide)))
 replace zb := aM (blk_grown (g := zf) (pK zb.out) hg (Kd.R_ne zg.out zb.out (by decide)))
 replace zj := aM (Kd.R_after (ok := (fun _ => True)) (by (with_reducible repeat (first | apply rA | apply rN | apply rD)); exact Kd.R_mono zj.out (fun _ hk => ⟨trivial, hk⟩)) hg hat)
 replace HB := aM (hb)
 have zz := aM (ho)
 clear zg
 clear ho hb hg hat
 obtain ⟨Ao14, co14, z2⟩ := Kd.R_slice zz.out
 (first | subst z2 | (injection z2 with f1_ f2_ f3_; have f4_ := f1_.symm; have f5_ := f3_.symm; clear f1_ f2_ f3_; subst f4_; subst f5_))
 obtain ⟨Ao15, co15, z3⟩ := Kd.R_slice zj.out
 (first | subst z3 | (injection z3 with f1_ f2_ f3_; have f4_ := f1_.symm; have f5_ := f3_.symm; clear f1_ f2_ f3_; subst f4_; subst f5_))
 refine hK.out _ _ (h3 za) (fun hHeld => ?_)
 clear hK K
 refine norm_ (a' := ?_) ?_ ?_
 rotate_left
 ·show Act.put _ (some 12) _ = _
  simp only [Act.put, sP, i64_w, i32_w]
  rfl
 refine pP (i := 10) (N := some 13) (bm 12 2047) rfl rfl HT_.out ?_
 refine one_ (i := 11) (N := none) (bm 12 4095) rfl rfl (one_of HT_.out (by kernel_rfl)) (by decide) (fun K hK => ?_)
 have hs16 : w13.cell? ⟨zf, 0, none⟩ = some (.bool false) := (blk_cell zb.out 0).trans rfl
 have hfs16 := blk_frozen zb.out 0
 have hns16_0 := zc.out
 have hms16_0 := zm.out
 have hs17 : w13.cell? ⟨zf, 1, none⟩ = some (.slice none 0 0) := (blk_cell zb.out 1).trans rfl
 have hfs17 := blk_frozen zb.out 1
 have hns17_0 := zc.out
 have hms17_0 := zm.out
 have hs18 : w13.cell? ⟨zf, 2, none⟩ = some (.slice none 0 0) := (blk_cell zb.out 2).trans rfl
 have hfs18 := blk_frozen zb.out 2
 have hns18_0 := zc.out
 have hms18_0 := zm.out
 refine skip_ (w1 := ?_) (by rfl) rfl ?_ ?_
 rotate_left
 ·go_simp
  rfl
 refine hK.out _ _ ⟨((cell_far (p := ⟨zf, _, none⟩) zc.out _).trans (((cell_far (p := ⟨zf, _, none⟩) zc.out _).trans (((cell_far (p := ⟨zf, _, none⟩) zc.out _).trans (hHeld.1)))))), ((cell_far (p := ⟨zf, _, none⟩) zc.out _).trans (((cell_far (p := ⟨zf, _, none⟩) zc.out _).trans (((cell_far (p := ⟨zf, _, none⟩) zc.out _).trans (hHeld.2.1)))))), ((cell_far (p := ⟨zf, _, none⟩) zc.out _).trans (((cell_far (p := ⟨zf, _, none⟩) zc.out _).trans (((cell_far (p := ⟨zf, _, none⟩) zc.out _).trans (hHeld.2.2))))))⟩ (fun hHeld => ?_)
 clear hK K
 refine done_ (done_of HT_.out (by kernel_rfl)) ?_
 try go_wp2
 refine bodyPost_ret (results_cell_row rfl _ _ zf 40 #[.bool a0_0, .slice Ao15 zs.length co15, .slice Ao14 z1.length co14] (0, 0) _ rfl (by exact P3 zb) Try.underlying40 rfl (by kernel_rfl)) rfl ?_
 exact ⟨_, _, pE, by (with_reducible repeat (first | apply rA | apply rN | apply rD)); exact F3 zj zb (fun _ hk => hk.1.2), by (with_reducible repeat (first | apply rA | apply rN | apply rD)); exact F3 zz zb (fun _ hk => hk.1), qB2 HB zd ze⟩
end Go.Proofs.Ytekmchjlnekliaa.Q
