-- By wip/gprint.py (this session's), out of the kit's print.py.
import Derived.Test.YtekmchjlnekliaaQx0
import Derived.Test.YtekmchjlnekliaaQxfBankCopied
namespace Go.Proofs.Ytekmchjlnekliaa.Q
open Go.RowKit Go.Proofs.YtekmchjlnekliaaW.PrintWords Go.Proofs.YtekmchjlnekliaaW.PrintLast Go.Proofs.YtekmchjlnekliaaW.PrintMore
attribute [local go_sem] max2_int min2_int max_two min_two max_three min_three max_four min_four   -- for this text's walks alone
set_option linter.unusedVariables false
set_option linter.unusedSimpArgs false

/-! ### bank_Copy: function 20 -/
def bank_Copy.f (a0_0 : Bool) (l0_1 : List Int) (l0_2 : List Int) (a0_3 : Int) (a0_4 : Int) : Option (Bool × List Int × List Int × Int × Int) := (bank_copied.f a0_0 l0_1 l0_2).bind fun bt124 => (some (bt124.1, bt124.2.1, bt124.2.2, a0_3, a0_4))
def bank_Copy.T1 : Bool × List (List Nat × List Nat) := (true, [([], []), ([0], [0]), ([1], [1]), ([], []), ([3], [3]), ([], []), ([5], [5]), ([2, 4, 6], [2, 4, 6]), ([7, 2, 0, 1, 2, 3, 4, 5, 6, 7], [7])])
def bank_Copy.B1 : List Nat := [0, 1, 3, 0, 8, 0, 32, 127, 255]
theorem bank_Copy.tab1 : rtab .any (opsOf Try.f20 1) = bank_Copy.T1 := by kernel_rfl
theorem bank_Copy.bits1 : waitsOk bank_Copy.T1.2 bank_Copy.B1 = true := by kernel_rfl
set_option maxHeartbeats 8000000 in
set_option maxRecDepth 100000 in
theorem bank_Copy.calls (a0_0 : Bool) (A0_1 : Option Addr) (c0_1 : Nat) (l0_1 : List Int) (A0_2 : Option Addr) (c0_2 : Nat) (l0_2 : List Int) (a0_3 : Int) (a0_4 : Int) (r1 : Bool) (r2 : List Int) (r3 : List Int) (r4 : Int) (r5 : Int) (w : World) (hr0_1 : Kd.C (Kd.int .u64) w A0_1 l0_1.length l0_1) (hc0_1 : l0_1.length ≤ c0_1) (hr0_2 : Kd.C (Kd.int .u64) w A0_2 l0_2.length l0_2) (hc0_2 : l0_2.length ≤ c0_2) (h : bank_Copy.f a0_0 l0_1 l0_2 a0_3 a0_4 = some (r1, r2, r3, r4, r5)) :
  Calls Try.prog 20 #[.agg #[.bool a0_0, .slice A0_1 l0_1.length c0_1, .slice A0_2 l0_2.length c0_2, .int .u64 a0_3, .int .i64 a0_4]] w fun e w' => ∃ v1_ v2_ : Value, e = .returned (.agg #[.bool r1, v1_, v2_, .int .u64 r4, .int .i64 r5]) ∧ Kd.R (Kd.int .u64) 41 w' w.heap.size (fun k_ => some k_ ≠ (v2_ : Value).ownBlock) v1_ r2 ∧ Kd.R (Kd.int .u64) 41 w' w.heap.size (fun k_ => some k_ ≠ (v1_ : Value).ownBlock) v2_ r3 ∧ Below w.heap.size w w' := by
 have hu43 := Try.underlying43
 have hu40 := Try.underlying40
 have HR0_1 := aM hr0_1
 have HC0_1 := aM hc0_1
 clear hr0_1 hc0_1
 have HR0_2 := aM hr0_2
 have HC0_2 := aM hc0_2
 clear hr0_2 hc0_2
 have HB := aM (Below.refl w.heap.size w)
 have H : ((bank_copied.f a0_0 l0_1 l0_2).bind fun bt124 => (some (bt124.1, bt124.2.1, bt124.2.2, a0_3, a0_4))) = some (r1, r2, r3, r4, r5) := h
 clear h
 replace H := Option.bind_eq_some_iff.mp H
 obtain ⟨⟨zg, zi, zk⟩, A20, H⟩ := H
 try dsimp only at H
 have A2 := aM A20
 clear A20
 simp only [Option.some.injEq, Prod.mk.injEq] at H
 obtain ⟨rfl, rfl, rfl, rfl, rfl⟩ := H
 go_enter Try.func20, Try.ntmps20
 try go_wp2_with (first | ((with_reducible refine gate_dst (N := 1) rfl ?_); refine box_event ?hg (N := 1) ?hd (cs := #[.bool a0_0, .slice A0_1 l0_1.length c0_1, .slice A0_2 l0_2.length c0_2, .int .u64 a0_3, .int .i64 a0_4]) (t := 43) ?hr ?_; (case hd => rfl); (case hg => rfl); (case hr => first | (go_simp; done) | (go_simp; rfl)); intro zh hg w3 hbox hb; have zc := aM (hbox); have GW122 := gE (w := w) hg (qB HB); have zf := GW122; replace HB := bS (qB HB) hb; clear hb hbox hg) | ((with_reducible refine gate_dst (N := 2) rfl ?_); refine box_event ?hg (N := 2) ?hd (cs := #[.bool false, .slice none 0 0, .slice none 0 0, .int .u64 0, .int .i64 0]) (t := 43) ?hr ?_; (case hd => rfl); (case hg => rfl); (case hr => first | (go_simp; done) | (go_simp; rfl)); intro zb hg w4 hbox hb; have zd := aM (hbox); have GW123 := gE (w := w) hg (qB1 HB zf); have zj := GW123; replace HB := bS (qB1 HB zf) hb; have za := nL hg zc; have ze := nG hg zc; replace zc := bK zc hb; clear hb hbox hg))
 replace zc := aM (blk_drew zc.out)
 replace zd := aM (blk_drew zd.out)
 replace HB := aM (below_drew1 HB.out)
 refine start_ (n := 9) (S := fun w' => w'.cell? ⟨zh, 0, none⟩ = some (.bool a0_0) ∧ w'.cell? ⟨zh, 1, none⟩ = some (.slice A0_1 l0_1.length c0_1) ∧ w'.cell? ⟨zh, 2, none⟩ = some (.slice A0_2 l0_2.length c0_2) ∧ w'.cell? ⟨zh, 3, none⟩ = some (.int .u64 a0_3) ∧ w'.cell? ⟨zh, 4, none⟩ = some (.int .i64 a0_4)) (ds := []) (bm 9 0) (by kernel_rfl) rfl rfl ⟨(blk_cell zc.out 0).trans rfl, (blk_cell zc.out 1).trans rfl, (blk_cell zc.out 2).trans rfl, (blk_cell zc.out 3).trans rfl, (blk_cell zc.out 4).trans rfl⟩ (fun hHeld => ?_); refine with_tabW bank_Copy.tab1 bank_Copy.bits1 (fun HT_ HW_ => ?_)
 generalize w4.drew = w5 at zc zd HB hHeld ⊢
 refine pP (i := 0) (N := some 3) (bm 9 1) rfl rfl HT_.out ?_
 refine pP (i := 3) (N := some 6) (bm 9 9) rfl rfl HT_.out ?_
 refine pP (i := 5) (N := some 8) (bm 9 41) rfl rfl HT_.out ?_
 refine pT (i := 1) (N := some 4) (bm 9 43) rfl rfl HT_.out HW_.out hHeld (by rintro w' ⟨s0, s1, s2, s3, s4⟩; go_simp; with_reducible rfl) ?_
 refine pT (i := 4) (N := some 7) (bm 9 59) rfl rfl HT_.out HW_.out hHeld (by rintro w' ⟨s0, s1, s2, s3, s4⟩; go_simp; with_reducible rfl) ?_
 refine pT (i := 6) (N := some 9) (bm 9 123) rfl rfl HT_.out HW_.out hHeld (by rintro w' ⟨s0, s1, s2, s3, s4⟩; go_simp; with_reducible rfl) ?_
 refine one_ (i := 2) (N := some 5) (bm 9 127) rfl rfl (one_of HT_.out (by kernel_rfl)) (by decide) (fun K hK => ?_)
 refine goes_ Try.func22 (by kernel_rfl) rfl #[.agg #[.bool a0_0, .slice A0_1 l0_1.length c0_1, .slice A0_2 l0_2.length c0_2]] (by rfl) rfl rfl pA ?_
 with_reducible refine (bank_copied.calls a0_0 _ _ l0_1 _ _ l0_2 zg zi zk _ ?s1 ?s2 ?s3 ?s4 A2.out).mono ?_
 (case s1 => exact sC HR0_1 HB)
 (case s2 => exact HC0_1.out)
 (case s3 => exact sC HR0_2 HB)
 (case s4 => exact HC0_2.out)
 rintro e w6 ⟨v126, v129, rfl, ho0, ho1, hb⟩
 refine ⟨_, rfl, ?_⟩
 have zl := aM (Kd.R_lower ho0 (below_size (qB2 HB zf zj)))
 have zm := aM (Kd.R_lower ho1 (below_size (qB2 HB zf zj)))
 replace zc := bK zc hb
 replace zd := bK zd hb
 replace HB := bS (qB2 HB zf zj) hb
 (try clear hb)
 (try clear ho0)
 (try clear ho1)
 obtain ⟨Ao7, co7, eo7⟩ := Kd.R_slice zm.out
 (first | subst eo7 | (injection eo7 with f1_ f2_ f3_; have f4_ := f1_.symm; have f5_ := f3_.symm; clear f1_ f2_ f3_; subst f4_; subst f5_))
 obtain ⟨Ao8, co8, eo8⟩ := Kd.R_slice zl.out
 (first | subst eo8 | (injection eo8 with f1_ f2_ f3_; have f4_ := f1_.symm; have f5_ := f3_.symm; clear f1_ f2_ f3_; subst f4_; subst f5_))
 refine hK.out _ _ ⟨(blk_cell zc.out 0).trans rfl, (blk_cell zc.out 1).trans rfl, (blk_cell zc.out 2).trans rfl, (blk_cell zc.out 3).trans rfl, (blk_cell zc.out 4).trans rfl⟩ (fun hHeld => ?_)
 clear hK K
 refine norm_ (a' := ?_) ?_ ?_
 rotate_left
 ·show Act.put _ (some 5) _ = _
  simp only [Act.put, sP, i64_w, i32_w]
  rfl
 refine pP (i := 7) (N := some 10) (bm 9 255) rfl rfl HT_.out ?_
 refine one_ (i := 8) (N := none) (bm 9 511) rfl rfl (one_of HT_.out (by kernel_rfl)) (by decide) (fun K hK => ?_)
 have hs9 : w6.cell? ⟨zb, 0, none⟩ = some (.bool false) := (blk_cell zd.out 0).trans rfl
 have hfs9 := blk_frozen zd.out 0
 have hns9_0 := za.out
 have hms9_0 := ze.out
 have hs10 : w6.cell? ⟨zb, 1, none⟩ = some (.slice none 0 0) := (blk_cell zd.out 1).trans rfl
 have hfs10 := blk_frozen zd.out 1
 have hns10_0 := za.out
 have hms10_0 := ze.out
 have hs11 : w6.cell? ⟨zb, 2, none⟩ = some (.slice none 0 0) := (blk_cell zd.out 2).trans rfl
 have hfs11 := blk_frozen zd.out 2
 have hns11_0 := za.out
 have hms11_0 := ze.out
 have hs12 : w6.cell? ⟨zb, 3, none⟩ = some (.int .u64 0) := (blk_cell zd.out 3).trans rfl
 have hfs12 := blk_frozen zd.out 3
 have hns12_0 := za.out
 have hms12_0 := ze.out
 have hs13 : w6.cell? ⟨zb, 4, none⟩ = some (.int .i64 0) := (blk_cell zd.out 4).trans rfl
 have hfs13 := blk_frozen zd.out 4
 have hns13_0 := za.out
 have hms13_0 := ze.out
 refine skip_ (w1 := ?_) (by rfl) rfl ?_ ?_
 rotate_left
 ·go_simp
  rfl
 refine hK.out _ _ ⟨((cell_far (p := ⟨zb, _, none⟩) za.out _).trans (((cell_far (p := ⟨zb, _, none⟩) za.out _).trans (((cell_far (p := ⟨zb, _, none⟩) za.out _).trans (((cell_far (p := ⟨zb, _, none⟩) za.out _).trans (((cell_far (p := ⟨zb, _, none⟩) za.out _).trans (hHeld.1)))))))))), ((cell_far (p := ⟨zb, _, none⟩) za.out _).trans (((cell_far (p := ⟨zb, _, none⟩) za.out _).trans (((cell_far (p := ⟨zb, _, none⟩) za.out _).trans (((cell_far (p := ⟨zb, _, none⟩) za.out _).trans (((cell_far (p := ⟨zb, _, none⟩) za.out _).trans (hHeld.2.1)))))))))), ((cell_far (p := ⟨zb, _, none⟩) za.out _).trans (((cell_far (p := ⟨zb, _, none⟩) za.out _).trans (((cell_far (p := ⟨zb, _, none⟩) za.out _).trans (((cell_far (p := ⟨zb, _, none⟩) za.out _).trans (((cell_far (p := ⟨zb, _, none⟩) za.out _).trans (hHeld.2.2.1)))))))))), ((cell_far (p := ⟨zb, _, none⟩) za.out _).trans (((cell_far (p := ⟨zb, _, none⟩) za.out _).trans (((cell_far (p := ⟨zb, _, none⟩) za.out _).trans (((cell_far (p := ⟨zb, _, none⟩) za.out _).trans (((cell_far (p := ⟨zb, _, none⟩) za.out _).trans (hHeld.2.2.2.1)))))))))), ((cell_far (p := ⟨zb, _, none⟩) za.out _).trans (((cell_far (p := ⟨zb, _, none⟩) za.out _).trans (((cell_far (p := ⟨zb, _, none⟩) za.out _).trans (((cell_far (p := ⟨zb, _, none⟩) za.out _).trans (((cell_far (p := ⟨zb, _, none⟩) za.out _).trans (hHeld.2.2.2.2))))))))))⟩ (fun hHeld => ?_)
 clear hK K
 refine done_ (done_of HT_.out (by kernel_rfl)) ?_
 try go_wp2
 refine bodyPost_ret (results_cell_row rfl _ _ zb 43 #[.bool zg, .slice Ao8 zi.length co8, .slice Ao7 zk.length co7, .int .u64 a0_3, .int .i64 a0_4] (0, 0) _ rfl (by (with_reducible repeat (first | apply bN | apply bD | apply bA)); refine blk_put (cs := #[.bool zg, .slice Ao8 zi.length co8, .slice Ao7 zk.length co7, .int .u64 a0_3, .int .i64 0]) ?_ 4 _ rfl; (with_reducible repeat (first | apply bN | apply bD | apply bA)); refine blk_put (cs := #[.bool zg, .slice Ao8 zi.length co8, .slice Ao7 zk.length co7, .int .u64 0, .int .i64 0]) ?_ 3 _ rfl; (with_reducible repeat (first | apply bN | apply bD | apply bA)); refine blk_put (cs := #[.bool zg, .slice Ao8 zi.length co8, .slice none 0 0, .int .u64 0, .int .i64 0]) ?_ 2 _ rfl; (with_reducible repeat (first | apply bN | apply bD | apply bA)); refine blk_put (cs := #[.bool zg, .slice none 0 0, .slice none 0 0, .int .u64 0, .int .i64 0]) ?_ 1 _ rfl; (with_reducible repeat (first | apply bN | apply bD | apply bA)); refine blk_put (cs := #[.bool false, .slice none 0 0, .slice none 0 0, .int .u64 0, .int .i64 0]) ?_ 0 _ rfl; (with_reducible repeat (first | apply bN | apply bD | apply bA)); exact zd.out) Try.underlying43 rfl (by kernel_rfl)) rfl ?_
 exact ⟨_, _, pE, by (with_reducible repeat (first | apply rA | apply rN | apply rD)); exact Kd.R_mono (Kd.R_far (p := ⟨zb, 4, none⟩) (Kd.R_far (p := ⟨zb, 3, none⟩) (Kd.R_far (p := ⟨zb, 2, none⟩) (Kd.R_far (p := ⟨zb, 1, none⟩) (Kd.R_far (p := ⟨zb, 0, none⟩) (Kd.R_types zl.out zd.out (by decide)) (fun _ hk => hk.2) (.bool zg)) (fun _ hk => hk.2) (.slice Ao8 zi.length co8)) (fun _ hk => hk.2) (.slice Ao7 zk.length co7)) (fun _ hk => hk.2) (.int .u64 a0_3)) (fun _ hk => hk.2) (.int .i64 a0_4)) (fun _ hk => hk.1), by (with_reducible repeat (first | apply rA | apply rN | apply rD)); exact Kd.R_mono (Kd.R_far (p := ⟨zb, 4, none⟩) (Kd.R_far (p := ⟨zb, 3, none⟩) (Kd.R_far (p := ⟨zb, 2, none⟩) (Kd.R_far (p := ⟨zb, 1, none⟩) (Kd.R_far (p := ⟨zb, 0, none⟩) (Kd.R_types zm.out zd.out (by decide)) (fun _ hk => hk.2) (.bool zg)) (fun _ hk => hk.2) (.slice Ao8 zi.length co8)) (fun _ hk => hk.2) (.slice Ao7 zk.length co7)) (fun _ hk => hk.2) (.int .u64 a0_3)) (fun _ hk => hk.2) (.int .i64 a0_4)) (fun _ hk => hk.1), qB2 HB zf zj⟩

end Go.Proofs.Ytekmchjlnekliaa.Q
