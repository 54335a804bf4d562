-- By wip/gprint.py (this session's), out of the kit's print.py.
import Derived.Test.YtjbpekblcecneaaQx0
import Derived.Test.YtjbpekblcecneaaQxfSlicesCloneIntInt
namespace Go.Proofs.Ytjbpekblcecneaa.Q
open Go.RowKit Go.Proofs.YtjbpekblcecneaaW.PrintWords Go.Proofs.YtjbpekblcecneaaW.PrintLast Go.Proofs.YtjbpekblcecneaaW.PrintMore
attribute [local go_sem] max2_int min2_int max_two min_two max_three min_three max_four min_four   -- for this text's walks alone
set_option linter.unusedVariables false
set_option linter.unusedSimpArgs false

/-! ### view_copied: function 45 -/
def view_copied.f (a0_0 : Int) (l0_1 : List Int) (l0_2 : List Int) : Option (Int × List Int × List Int) := (slices_Clone_int_int.f l0_1).bind fun zi => ((slices_Clone_int_int.f l0_2).bind fun zj => (some (a0_0, zi, zj)))
def view_copied.T1 : Bool × List (List Nat × List Nat) := (true, [([], []), ([0], [0]), ([], []), ([2], [2]), ([3], [3]), ([], []), ([5], [5]), ([6, 4], [6]), ([1, 4, 7], [1, 4, 7]), ([8, 7, 0, 1, 2, 3, 4, 5, 6, 7, 8], [8])])
def view_copied.B1 : List Nat := [0, 1, 0, 4, 12, 0, 32, 124, 255, 511]
theorem view_copied.tab1 : rtab .any (opsOf Try.f45 1) = view_copied.T1 := by kernel_rfl
theorem view_copied.bits1 : waitsOk view_copied.T1.2 view_copied.B1 = true := by kernel_rfl
set_option maxHeartbeats 8000000 in
set_option maxRecDepth 100000 in
theorem view_copied.calls (a0_0 : Int) (A0_1 : Option Addr) (c0_1 : Nat) (l0_1 : List Int) (A0_2 : Option Addr) (c0_2 : Nat) (l0_2 : List Int) (r1 : Int) (r2 : List Int) (r3 : List Int) (w : World) (hr0_1 : Kd.C (Kd.int .i64) w A0_1 l0_1.length l0_1) (hc0_1 : l0_1.length ≤ c0_1) (hr0_2 : Kd.C (Kd.int .i64) w A0_2 l0_2.length l0_2) (hc0_2 : l0_2.length ≤ c0_2) (h : view_copied.f a0_0 l0_1 l0_2 = some (r1, r2, r3)) :
  Calls Try.prog 45 #[.agg #[.int .i64 a0_0, .slice A0_1 l0_1.length c0_1, .slice A0_2 l0_2.length c0_2]] w fun e w' => ∃ v1_ v2_ : Value, e = .returned (.agg #[.int .i64 r1, v1_, v2_]) ∧ Kd.R (Kd.int .i64) 3 w' w.heap.size (fun k_ => some k_ ≠ (v2_ : Value).ownBlock) v1_ r2 ∧ Kd.R (Kd.int .i64) 3 w' w.heap.size (fun k_ => some k_ ≠ (v1_ : Value).ownBlock) v2_ r3 ∧ Below w.heap.size w w' := by
 have hu24 := Try.underlying24
 have HR0_1 := aM hr0_1
 have HC0_1 := aM hc0_1
 clear hr0_1 hc0_1
 have HR0_2 := aM hr0_2
 have HC0_2 := aM hc0_2
 clear hr0_2 hc0_2
 have HB := aM (Below.refl w.heap.size w)
 have H : ((slices_Clone_int_int.f l0_1).bind fun zi => ((slices_Clone_int_int.f l0_2).bind fun zj => (some (a0_0, zi, zj)))) = some (r1, r2, r3) := h
 clear h
 replace H := Option.bind_eq_some_iff.mp H
 obtain ⟨zi, A20, H⟩ := H
 try dsimp only at H
 have A2 := aM A20
 clear A20
 replace H := Option.bind_eq_some_iff.mp H
 obtain ⟨zj, A30, H⟩ := H
 try dsimp only at H
 have A3 := aM A30
 clear A30
 simp only [Option.some.injEq, Prod.mk.injEq] at H
 obtain ⟨rfl, rfl, rfl⟩ := H
 go_enter Try.func45, Try.ntmps45
 try go_wp2_with (first | ((with_reducible refine gate_dst (N := 1) rfl ?_); refine box_event ?hg (N := 1) ?hd (cs := #[.int .i64 a0_0, .slice A0_1 l0_1.length c0_1, .slice A0_2 l0_2.length c0_2]) (t := 24) ?hr ?_; (case hd => rfl); (case hg => rfl); (case hr => first | (go_simp; done) | (go_simp; rfl)); intro zk hg w4 hbox hb; have zc := aM (hbox); have GW170 := gE (w := w) hg (qB HB); have zf := GW170; replace HB := bS (qB HB) hb; clear hb hbox hg) | ((with_reducible refine gate_dst (N := 2) rfl ?_); refine box_event ?hg (N := 2) ?hd (cs := #[.int .i64 0, .slice none 0 0, .slice none 0 0]) (t := 24) ?hr ?_; (case hd => rfl); (case hg => rfl); (case hr => first | (go_simp; done) | (go_simp; rfl)); intro zd hg w5 hbox hb; have zb := aM (hbox); have GW171 := gE (w := w) hg (qB1 HB zf); have zg := GW171; replace HB := bS (qB1 HB zf) hb; have za := nL hg zc; have ze := nG hg zc; replace zc := bK zc hb; clear hb hbox hg))
 replace zc := aM (blk_drew zc.out)
 replace zb := aM (blk_drew zb.out)
 replace HB := aM (below_drew1 HB.out)
 refine start_ (n := 10) (S := fun w' => w'.cell? ⟨zk, 0, none⟩ = some (.int .i64 a0_0) ∧ w'.cell? ⟨zk, 1, none⟩ = some (.slice A0_1 l0_1.length c0_1) ∧ w'.cell? ⟨zk, 2, none⟩ = some (.slice A0_2 l0_2.length c0_2)) (ds := []) (bm 10 0) (by kernel_rfl) rfl rfl (h3 zc) (fun hHeld => ?_); refine with_tabW view_copied.tab1 view_copied.bits1 (fun HT_ HW_ => ?_)
 generalize w5.drew = w6 at zc zb HB hHeld ⊢
 refine pP (i := 0) (N := some 3) (bm 10 1) rfl rfl HT_.out ?_
 refine pP (i := 2) (N := some 5) (bm 10 5) rfl rfl HT_.out ?_
 refine pP (i := 5) (N := some 8) (bm 10 37) rfl rfl HT_.out ?_
 refine pT (i := 1) (N := some 4) (bm 10 39) rfl rfl HT_.out HW_.out hHeld (by rintro w' ⟨s0, s1, s2⟩; go_simp; with_reducible rfl) ?_
 refine pT (i := 3) (N := some 6) (bm 10 47) rfl rfl HT_.out HW_.out hHeld (by rintro w' ⟨s0, s1, s2⟩; go_simp; with_reducible rfl) ?_
 refine pT (i := 6) (N := some 9) (bm 10 111) rfl rfl HT_.out HW_.out hHeld (by rintro w' ⟨s0, s1, s2⟩; go_simp; with_reducible rfl) ?_
 refine one_ (i := 4) (N := some 7) (bm 10 127) rfl rfl (one_of HT_.out (by kernel_rfl)) (by decide) (fun K hK => ?_)
 refine goes_ Try.func43 (by kernel_rfl) rfl #[.slice A0_1 l0_1.length c0_1] (by rfl) rfl rfl pA ?_
 with_reducible refine (slices_Clone_int_int.calls _ _ l0_1 zi _ ?s1 ?s2 A2.out).mono ?_
 (case s1 => exact sC HR0_1 HB)
 (case s2 => exact HC0_1.out)
 rintro e w7 ⟨v173, rfl, ho0, hb⟩
 refine ⟨_, rfl, ?_⟩
 have zh := aM (Kd.R_lower ho0 (below_size (qB2 HB zf zg)))
 replace zc := bK zc hb
 replace zb := bK zb hb
 replace HB := bS (qB2 HB zf zg) hb
 (try clear hb)
 (try clear ho0)
 refine hK.out _ _ (h3 zc) (fun hHeld => ?_)
 clear hK K
 refine norm_ (a' := ?_) ?_ ?_
 rotate_left
 ·show Act.put _ (some 7) _ = _
  simp only [Act.put, sP, i64_w, i32_w]
  rfl
 refine one_ (i := 7) (N := some 10) (bm 10 255) rfl rfl (one_of HT_.out (by kernel_rfl)) (by decide) (fun K hK => ?_)
 refine goes_ Try.func43 (by kernel_rfl) rfl #[.slice A0_2 l0_2.length c0_2] (by rfl) rfl rfl pA ?_
 with_reducible refine (slices_Clone_int_int.calls _ _ l0_2 zj _ ?s1 ?s2 A3.out).mono ?_
 (case s1 => exact sC HR0_2 HB)
 (case s2 => exact HC0_2.out)
 rintro e w8 ⟨v176, rfl, ho0, hb⟩
 refine ⟨_, rfl, ?_⟩
 have zl := aM (Kd.R_lower (Kd.R_new' ho0 (Kd.R_lt (pR zh.out))) (below_size (qB2 HB zf zg)))
 replace zh := eR zh ho0 hb
 replace zc := bK zc hb
 replace zb := bK zb hb
 replace HB := bS (qB2 HB zf zg) hb
 (try clear hb)
 (try clear ho0)
 obtain ⟨Ao9, co9, eo9⟩ := Kd.R_slice zl.out
 (first | subst eo9 | (injection eo9 with f1_ f2_ f3_; have f4_ := f1_.symm; have f5_ := f3_.symm; clear f1_ f2_ f3_; subst f4_; subst f5_))
 obtain ⟨Ao10, co10, zm⟩ := Kd.R_slice zh.out
 (first | subst zm | (injection zm with f1_ f2_ f3_; have f4_ := f1_.symm; have f5_ := f3_.symm; clear f1_ f2_ f3_; subst f4_; subst f5_))
 refine hK.out _ _ (h3 zc) (fun hHeld => ?_)
 clear hK K
 refine norm_ (a' := ?_) ?_ ?_
 rotate_left
 ·show Act.put _ (some 10) _ = _
  simp only [Act.put, sP, i64_w, i32_w]
  rfl
 refine pP (i := 8) (N := some 11) (bm 10 511) rfl rfl HT_.out ?_
 refine one_ (i := 9) (N := none) (bm 10 1023) rfl rfl (one_of HT_.out (by kernel_rfl)) (by decide) (fun K hK => ?_)
 have hs11 : w8.cell? ⟨zd, 0, none⟩ = some (.int .i64 0) := (blk_cell zb.out 0).trans rfl
 have hfs11 := blk_frozen zb.out 0
 have hns11_0 := za.out
 have hms11_0 := ze.out
 have hs12 : w8.cell? ⟨zd, 1, none⟩ = some (.slice none 0 0) := (blk_cell zb.out 1).trans rfl
 have hfs12 := blk_frozen zb.out 1
 have hns12_0 := za.out
 have hms12_0 := ze.out
 have hs13 : w8.cell? ⟨zd, 2, none⟩ = some (.slice none 0 0) := (blk_cell zb.out 2).trans rfl
 have hfs13 := blk_frozen zb.out 2
 have hns13_0 := za.out
 have hms13_0 := ze.out
 refine skip_ (w1 := ?_) (by rfl) rfl ?_ ?_
 rotate_left
 ·go_simp
  rfl
 refine hK.out _ _ ⟨((cell_far (p := ⟨zd, _, none⟩) za.out _).trans (((cell_far (p := ⟨zd, _, none⟩) za.out _).trans (((cell_far (p := ⟨zd, _, none⟩) za.out _).trans (hHeld.1)))))), ((cell_far (p := ⟨zd, _, none⟩) za.out _).trans (((cell_far (p := ⟨zd, _, none⟩) za.out _).trans (((cell_far (p := ⟨zd, _, none⟩) za.out _).trans (hHeld.2.1)))))), ((cell_far (p := ⟨zd, _, none⟩) za.out _).trans (((cell_far (p := ⟨zd, _, none⟩) za.out _).trans (((cell_far (p := ⟨zd, _, none⟩) za.out _).trans (hHeld.2.2))))))⟩ (fun hHeld => ?_)
 clear hK K
 refine done_ (done_of HT_.out (by kernel_rfl)) ?_
 try go_wp2
 refine bodyPost_ret (results_cell_row rfl _ _ zd 24 #[.int .i64 a0_0, .slice Ao10 zi.length co10, .slice Ao9 zj.length co9] (0, 0) _ rfl (by exact P3 zb) Try.underlying24 rfl (by kernel_rfl)) rfl ?_
 exact ⟨_, _, pE, by (with_reducible repeat (first | apply rA | apply rN | apply rD)); exact F3 zh zb (fun _ hk => hk.1.2), by (with_reducible repeat (first | apply rA | apply rN | apply rD)); exact F3 zl zb (fun _ hk => hk.1.2), qB2 HB zf zg⟩

end Go.Proofs.Ytjbpekblcecneaa.Q
