-- By wip/gprint.py (this session's), out of the kit's print.py.
import Derived.Test.YtjbpekblcecneaaQx0
import Derived.Test.YtjbpekblcecneaaQxfCellsList
import Derived.Test.YtjbpekblcecneaaQxfCellsOnce
import Derived.Test.YtjbpekblcecneaaQxfCellsTimes
namespace Go.Proofs.Ytjbpekblcecneaa.Q
open Go.RowKit Go.Proofs.YtjbpekblcecneaaW.PrintWords Go.Proofs.YtjbpekblcecneaaW.PrintLast Go.Proofs.YtjbpekblcecneaaW.PrintMore
attribute [local go_sem] max2_int min2_int max_two min_two max_three min_three max_four min_four   -- for this text's walks alone
set_option linter.unusedVariables false
set_option linter.unusedSimpArgs false

/-! ### gradinelaw23_same0: function 26 -/
def gradinelaw23_same0.f (k : Nat)  : Option (Bool) := (cells_List.f k 2 (([2, 2] : List Int)) (([3, (-2)] : List Int))).bind fun za => ((some (([2] : List Int) : List Int)).bind fun zh => ((some (([0] : List Int) : List Int)).bind fun zg => (if (za.length : Int) = 4 then (if 0 < (za.length : Int) then (if (rd za 0) = 2 then (if 1 < (za.length : Int) then (if (rd za 1) = 0 then (if 3 < (za.length : Int) then (if (rd za 3) = 3 then ((cells_Once.f k 0 zh zg).bind fun zk => (if zk = true then (some false) else ((cells_Times.f k 0 zh zg 0).bind fun zl => (some (zl == 2))))) else (some false)) else (none)) else (some false)) else (none)) else (some false)) else (none)) else (some false))))
set_option maxHeartbeats 8000000 in
set_option maxRecDepth 100000 in
theorem gradinelaw23_same0.calls (k : Nat)  (w : World) (h : gradinelaw23_same0.f k  = some true) :
  Calls Try.prog 26 #[] w fun e w' => e = .returned (.bool true) ∧ Below w.heap.size w w' := by
 have hu24 := Try.underlying24
 have HB := aM (Below.refl w.heap.size w)
 have H : ((cells_List.f k 2 (([2, 2] : List Int)) (([3, (-2)] : List Int))).bind fun za => ((some (([2] : List Int) : List Int)).bind fun zh => ((some (([0] : List Int) : List Int)).bind fun zg => (if (za.length : Int) = 4 then (if 0 < (za.length : Int) then (if (rd za 0) = 2 then (if 1 < (za.length : Int) then (if (rd za 1) = 0 then (if 3 < (za.length : Int) then (if (rd za 3) = 3 then ((cells_Once.f k 0 zh zg).bind fun zk => (if zk = true then (some false) else ((cells_Times.f k 0 zh zg 0).bind fun zl => (some (zl == 2))))) else (some false)) else (none)) else (some false)) else (none)) else (some false)) else (none)) else (some false))))) = some true := h
 clear h
 obtain ⟨zm, zp⟩ : ∃ y_ : List Int, y_ = (([2, 2] : List Int)) := ⟨_, rfl⟩
 replace H : ((cells_List.f k 2 zm (([3, (-2)] : List Int))).bind fun za => ((some (([2] : List Int) : List Int)).bind fun zh => ((some (([0] : List Int) : List Int)).bind fun zg => (if (za.length : Int) = 4 then (if 0 < (za.length : Int) then (if (rd za 0) = 2 then (if 1 < (za.length : Int) then (if (rd za 1) = 0 then (if 3 < (za.length : Int) then (if (rd za 3) = 3 then ((cells_Once.f k 0 zh zg).bind fun zk => (if zk = true then (some false) else ((cells_Times.f k 0 zh zg 0).bind fun zl => (some (zl == 2))))) else (some false)) else (none)) else (some false)) else (none)) else (some false)) else (none)) else (some false))))) = some true := pH zp H
 have zx := aM zp
 clear zp
 obtain ⟨zq, zr⟩ : ∃ y_ : List Int, y_ = (([3, (-2)] : List Int)) := ⟨_, rfl⟩
 replace H : ((cells_List.f k 2 zm zq).bind fun za => ((some (([2] : List Int) : List Int)).bind fun zh => ((some (([0] : List Int) : List Int)).bind fun zg => (if (za.length : Int) = 4 then (if 0 < (za.length : Int) then (if (rd za 0) = 2 then (if 1 < (za.length : Int) then (if (rd za 1) = 0 then (if 3 < (za.length : Int) then (if (rd za 3) = 3 then ((cells_Once.f k 0 zh zg).bind fun zk => (if zk = true then (some false) else ((cells_Times.f k 0 zh zg 0).bind fun zl => (some (zl == 2))))) else (some false)) else (none)) else (some false)) else (none)) else (some false)) else (none)) else (some false))))) = some true := pH zr H
 have zy := aM zr
 clear zr
 replace H := Option.bind_eq_some_iff.mp H
 obtain ⟨za, A10, H⟩ := H
 try dsimp only at H
 have A1 := aM A10
 clear A10
 obtain ⟨zh, zs⟩ : ∃ y_ : List Int, y_ = (([2] : List Int)) := ⟨_, rfl⟩
 replace H : ((some (([0] : List Int) : List Int)).bind fun zg => (if (za.length : Int) = 4 then (if 0 < (za.length : Int) then (if (rd za 0) = 2 then (if 1 < (za.length : Int) then (if (rd za 1) = 0 then (if 3 < (za.length : Int) then (if (rd za 3) = 3 then ((cells_Once.f k 0 zh zg).bind fun zk => (if zk = true then (some false) else ((cells_Times.f k 0 zh zg 0).bind fun zl => (some (zl == 2))))) else (some false)) else (none)) else (some false)) else (none)) else (some false)) else (none)) else (some false))) = some true := pH zs H
 have zz := aM zs
 clear zs
 obtain ⟨zg, zt⟩ : ∃ y_ : List Int, y_ = (([0] : List Int)) := ⟨_, rfl⟩
 replace H : (if (za.length : Int) = 4 then (if 0 < (za.length : Int) then (if (rd za 0) = 2 then (if 1 < (za.length : Int) then (if (rd za 1) = 0 then (if 3 < (za.length : Int) then (if (rd za 3) = 3 then ((cells_Once.f k 0 zh zg).bind fun zk => (if zk = true then (some false) else ((cells_Times.f k 0 zh zg 0).bind fun zl => (some (zl == 2))))) else (some false)) else (none)) else (some false)) else (none)) else (some false)) else (none)) else (some false)) = some true := pH zt H
 have z0 := aM zt
 clear zt
 by_cases c2 : (za.length : Int) = 4
 rotate_left
 ·rw [if_neg c2] at H
  have c2b0 : ((za.length : Int) == 4) = false := beq_eq_false_iff_ne.mpr c2
  have c2b1 : ((za.length : Int) != 4) = true := bne_iff_ne.mpr c2
  exact absurd H (by simp)

 rw [if_pos c2] at H
 have c2b0 : ((za.length : Int) == 4) = true := beq_iff_eq.mpr c2
 have c2b1 : ((za.length : Int) != 4) = false := bne_eq_false_iff_eq.mpr c2
 clear c2
 by_cases c3 : 0 < (za.length : Int)
 rotate_left
 ·rw [if_neg c3] at H
  exact absurd H (by simp)
 rw [if_pos c3] at H
 have c3b0 : decide (0 < (za.length : Int)) = true := decide_eq_true c3
 have c3b1 : decide (0 < za.length) = true := decide_eq_true (by omega)
 clear c3
 by_cases c4 : (rd za 0) = 2
 rotate_left
 ·rw [if_neg c4] at H
  have c4b0 : ((rd za 0) == 2) = false := beq_eq_false_iff_ne.mpr c4
  have c4b1 : ((rd za 0) != 2) = true := bne_iff_ne.mpr c4
  exact absurd H (by simp)
 rw [if_pos c4] at H
 have c4b0 : ((rd za 0) == 2) = true := beq_iff_eq.mpr c4
 have c4b1 : ((rd za 0) != 2) = false := bne_eq_false_iff_eq.mpr c4
 clear c4
 by_cases c5 : 1 < (za.length : Int)
 rotate_left
 ·rw [if_neg c5] at H
  exact absurd H (by simp)
 rw [if_pos c5] at H
 have c5b0 : decide (1 < (za.length : Int)) = true := decide_eq_true c5
 have c5b1 : decide (1 < za.length) = true := decide_eq_true (by omega)
 clear c5
 by_cases c6 : (rd za 1) = 0
 rotate_left
 ·rw [if_neg c6] at H
  have c6b0 : ((rd za 1) == 0) = false := beq_eq_false_iff_ne.mpr c6
  have c6b1 : ((rd za 1) != 0) = true := bne_iff_ne.mpr c6
  exact absurd H (by simp)
 rw [if_pos c6] at H
 have c6b0 : ((rd za 1) == 0) = true := beq_iff_eq.mpr c6
 have c6b1 : ((rd za 1) != 0) = false := bne_eq_false_iff_eq.mpr c6
 clear c6
 by_cases c7 : 3 < (za.length : Int)
 rotate_left
 ·rw [if_neg c7] at H
  exact absurd H (by simp)
 rw [if_pos c7] at H
 have c7b0 : decide (3 < (za.length : Int)) = true := decide_eq_true c7
 have c7b1 : decide (3 < za.length) = true := decide_eq_true (by omega)
 clear c7
 by_cases c8 : (rd za 3) = 3
 rotate_left
 ·rw [if_neg c8] at H
  have c8b0 : ((rd za 3) == 3) = false := beq_eq_false_iff_ne.mpr c8
  have c8b1 : ((rd za 3) != 3) = true := bne_iff_ne.mpr c8
  exact absurd H (by simp)
 rw [if_pos c8] at H
 have c8b0 : ((rd za 3) == 3) = true := beq_iff_eq.mpr c8
 have c8b1 : ((rd za 3) != 3) = false := bne_eq_false_iff_eq.mpr c8
 clear c8
 replace H := Option.bind_eq_some_iff.mp H
 obtain ⟨zk, A90, H⟩ := H
 try dsimp only at H
 have A9 := aM A90
 clear A90
 by_cases c10 : zk = true
 ·subst c10
  rw [if_pos rfl] at H
  exact absurd H (by simp)
 replace c10 := Bool.eq_false_iff.mpr c10
 subst c10
 rw [if_neg (show ¬ (false = true) by decide)] at H
 replace H := Option.bind_eq_some_iff.mp H
 obtain ⟨zl, z5, H⟩ := H
 try dsimp only at H
 have A11 := aM z5
 clear z5
 have hv_ := aM (Option.some.inj H)
 clear H
 go_enter Try.func26, Try.ntmps26
 go_wp2_with (first | ((with_reducible refine gate_dst (N := 3) rfl ?_); refine Kd.R_lit (Kd.int .i64) _ 3 ?hg (N := 3) ?hd (xs := ([2, 2] : List Int)) (inner := [.int .i64 2, .int .i64 2]) (ok := fun _ => True) (okp := fun _ => True) ?hr ?hp (fun _ hk => hk) trivial (Below.refl _ _) (Nat.le_refl _) (by simp) ?_; (case hd => rfl); (case hg => rfl); (case hr => first | (go_simp; done) | (go_simp; rfl)); (case hp => exact (Reps.one (show Kd.M (Kd.int .i64) _ _ _ 2 [.int .i64 2] from rfl) (Reps.one (show Kd.M (Kd.int .i64) _ _ _ 2 [.int .i64 2] from rfl) (Reps.none _ _)))); intro v780 w12 ho13 hb hg_ hnew_; clear hg_ hnew_; (first | rw [← zx.out] at ho13 | (simp only [Int.reduceToNat] at ho13; rw [← zx.out] at ho13)); have zd := aM (Kd.R_lower ho13 (below_size (qB HB))); replace HB := bS (qB HB) hb; clear hb ho13) | ((with_reducible refine gate_dst (N := 4) rfl ?_); refine Kd.R_lit (Kd.int .i64) _ 3 ?hg (N := 4) ?hd (xs := ([3, (-2)] : List Int)) (inner := [.int .i64 3, .int .i64 (-2)]) (ok := fun _ => True) (okp := fun _ => True) ?hr ?hp (fun _ hk => hk) trivial (Below.refl _ _) (Nat.le_refl _) (by simp) ?_; (case hd => rfl); (case hg => rfl); (case hr => first | (go_simp; done) | (go_simp; rfl)); (case hp => exact (Reps.one (show Kd.M (Kd.int .i64) _ _ _ 3 [.int .i64 3] from rfl) (Reps.one (show Kd.M (Kd.int .i64) _ _ _ (-2) [.int .i64 (-2)] from rfl) (Reps.none _ _)))); intro v783 w14 ho15 hb hg_ hnew_; clear hg_ hnew_; (first | rw [← zy.out] at ho15 | (simp only [Int.reduceToNat] at ho15; rw [← zy.out] at ho15)); have zf := aM (Kd.R_lower (Kd.R_new' ho15 (Kd.R_lt (pR zd.out))) (below_size (qB HB))); replace zd := eR zd ho15 hb; replace HB := bS (qB HB) hb; clear hb ho15; obtain ⟨z1, z2, eo16⟩ := Kd.R_slice zf.out; subst eo16; obtain ⟨z3, z4, eo17⟩ := Kd.R_slice zd.out; subst eo17) | ((with_reducible refine gate_callee (f := 29) rfl ?_); refine goesL_ (some 6) rfl rfl Try.func29 (by kernel_rfl) rfl #[.agg #[.int .i64 2, .slice z3 zm.length z4, .slice z1 zq.length z2]] rfl pA ?_; (with_reducible refine (cells_List.calls k 2 _ _ zm _ _ zq za _ ?s1 ?s2 ?s3 ?s4 A1.out).mono ?_); (case s1 => exact sR zd); (case s2 => exact sL zd); (case s3 => exact sR zf); (case s4 => exact sL zf); rintro e w18 ⟨v786, rfl, ho0, hb⟩; refine ⟨_, rfl, ?_⟩; have zb := aM (Kd.R_lower (Kd.R_new' (Kd.R_new' ho0 (Kd.R_lt (pR zd.out))) (Kd.R_lt (pR zf.out))) (below_size (qB HB))); replace zd := eR zd ho0 hb; replace zf := eR zf ho0 hb; replace HB := bS (qB HB) hb; (try clear hb); (try clear hk); (try clear hi); (try clear ho0)) | ((with_reducible refine gate_dst (N := 7) rfl ?_); refine Kd.R_lit (Kd.int .i64) _ 3 ?hg (N := 7) ?hd (xs := ([2] : List Int)) (inner := [.int .i64 2]) (ok := fun _ => True) (okp := fun _ => True) ?hr ?hp (fun _ hk => hk) trivial (Below.refl _ _) (Nat.le_refl _) (by simp) ?_; (case hd => rfl); (case hg => rfl); (case hr => first | (go_simp; done) | (go_simp; rfl)); (case hp => exact (Reps.one (show Kd.M (Kd.int .i64) _ _ _ 2 [.int .i64 2] from rfl) (Reps.none _ _))); intro v789 w19 ho20 hb hg_ hnew_; clear hg_ hnew_; (first | rw [← zz.out] at ho20 | (simp only [Int.reduceToNat] at ho20; rw [← zz.out] at ho20)); have zi := aM (Kd.R_lower (Kd.R_new' (Kd.R_new' (Kd.R_new' ho20 (Kd.R_lt (pR zd.out))) (Kd.R_lt (pR zf.out))) (Kd.R_lt (pR zb.out))) (below_size (qB HB))); replace zd := eR zd ho20 hb; replace zf := eR zf ho20 hb; replace zb := eR zb ho20 hb; replace HB := bS (qB HB) hb; clear hb ho20) | ((with_reducible refine gate_dst (N := 8) rfl ?_); refine Kd.R_lit (Kd.int .i64) _ 3 ?hg (N := 8) ?hd (xs := ([0] : List Int)) (inner := [.int .i64 0]) (ok := fun _ => True) (okp := fun _ => True) ?hr ?hp (fun _ hk => hk) trivial (Below.refl _ _) (Nat.le_refl _) (by simp) ?_; (case hd => rfl); (case hg => rfl); (case hr => first | (go_simp; done) | (go_simp; rfl)); (case hp => exact (Reps.one (show Kd.M (Kd.int .i64) _ _ _ 0 [.int .i64 0] from rfl) (Reps.none _ _))); intro v792 w21 ho22 hb hg_ hnew_; clear hg_ hnew_; (first | rw [← z0.out] at ho22 | (simp only [Int.reduceToNat] at ho22; rw [← z0.out] at ho22)); have zj := aM (Kd.R_lower (Kd.R_new' (Kd.R_new' (Kd.R_new' (Kd.R_new' ho22 (Kd.R_lt (pR zd.out))) (Kd.R_lt (pR zf.out))) (Kd.R_lt (pR zb.out))) (Kd.R_lt (pR zi.out))) (below_size (qB HB))); replace zd := eR zd ho22 hb; replace zf := eR zf ho22 hb; replace zb := eR zb ho22 hb; replace zi := eR zi ho22 hb; replace HB := bS (qB HB) hb; clear hb ho22; obtain ⟨zu, zn, eo23⟩ := Kd.R_slice zj.out; subst eo23; obtain ⟨zv, zo, eo24⟩ := Kd.R_slice zi.out; subst eo24) | ((with_reducible refine gate_dst (N := 2) rfl ?_); refine box_event ?hg (N := 2) ?hd (cs := #[.int .i64 0, .slice none 0 0, .slice none 0 0]) (t := 24) ?hr ?_; (case hd => rfl); (case hg => rfl); (case hr => first | (go_simp; done) | (go_simp; rfl)); intro ze hg w25 hbox hb; replace zd := bR zd hb; replace zf := bR zf hb; replace zb := bR zb hb; replace zi := bR zi hb; replace zj := bR zj hb; have zc := aM (hbox); have GW794 := gE (w := w) hg (qB HB); have zw := GW794; replace HB := bS (qB HB) hb; clear hb hbox hg; obtain ⟨hcz26_0, hcz26_1, hcz26_2, hfz26_0, hfz26_1, hfz26_2⟩ := blk3 zc.out; obtain ⟨Ao27, z6, eo27⟩ := Kd.R_slice zb.out; subst eo27; have p795 : 0 ≤ (0 : Int) := (by omega); have q795 : 0 < (za.length : Int) := of_decide_eq_true pD; obtain ⟨ad795, e795, hx795_0⟩ := Kd.at_int (Kd.R_reads' zb.out).2.2 0 p795 q795; cases e795; have qi795 : (0 < za.length) = True := eq_true (by omega); (try rw [show ((0 : Int)).toNat = 0 from rfl] at hx795_0); (try rw [Addr.add_zero'] at hx795_0); have hn795_0 : ad795.block ≠ ze := Kd.own_blk (Kd.R_ne zb.out zc.out (by decide)); have hn795_1 : ad795.block ≠ ze := Kd.own_blk (Kd.R_ne zb.out zc.out (by decide)); have hn795_2 : ad795.block ≠ ze := Kd.own_blk (Kd.R_ne zb.out zc.out (by decide)); replace hx795_0 := (cell_far (p := ⟨ze, 0, none⟩) (by first | (rw [add_block]; exact hn795_0) | (show (Addr.add _ _).block ≠ _; rw [add_block]; exact hn795_0) | exact hn795_0) (.int .i64 0)).trans hx795_0; replace hx795_0 := (cell_far (p := ⟨ze, 1, none⟩) (by first | (rw [add_block]; exact hn795_1) | (show (Addr.add _ _).block ≠ _; rw [add_block]; exact hn795_1) | exact hn795_1) (.slice zv zh.length zo)).trans hx795_0; replace hx795_0 := (cell_far (p := ⟨ze, 2, none⟩) (by first | (rw [add_block]; exact hn795_2) | (show (Addr.add _ _).block ≠ _; rw [add_block]; exact hn795_2) | exact hn795_2) (.slice zu zg.length zn)).trans hx795_0; clear hn795_0; clear hn795_1; clear hn795_2; replace p795 := eq_true p795; replace q795 := eq_true q795; have p796 : 0 ≤ (1 : Int) := (by omega); have q796 : 1 < (za.length : Int) := of_decide_eq_true pD; obtain ⟨ad796, e796, hx796_0⟩ := Kd.at_int (Kd.R_reads' zb.out).2.2 1 p796 q796; obtain rfl : ad795 = ad796 := (by injection e796); (try simp only [show (1 : Int).toNat = 1 from rfl, Nat.reduceMul, Nat.reduceEqDiff, Go.Addr.add, ↓reduceIte] at hx796_0); have qi796 : (1 < za.length) = True := eq_true (by omega); (try rw [show ((1 : Int)).toNat = 1 from rfl] at hx796_0); have hn796_0 : ad795.block ≠ ze := Kd.own_blk (Kd.R_ne zb.out zc.out (by decide)); have hn796_1 : ad795.block ≠ ze := Kd.own_blk (Kd.R_ne zb.out zc.out (by decide)); have hn796_2 : ad795.block ≠ ze := Kd.own_blk (Kd.R_ne zb.out zc.out (by decide)); replace hx796_0 := (cell_far (p := ⟨ze, 0, none⟩) (by first | (rw [add_block]; exact hn796_0) | (show (Addr.add _ _).block ≠ _; rw [add_block]; exact hn796_0) | exact hn796_0) (.int .i64 0)).trans hx796_0; replace hx796_0 := (cell_far (p := ⟨ze, 1, none⟩) (by first | (rw [add_block]; exact hn796_1) | (show (Addr.add _ _).block ≠ _; rw [add_block]; exact hn796_1) | exact hn796_1) (.slice zv zh.length zo)).trans hx796_0; replace hx796_0 := (cell_far (p := ⟨ze, 2, none⟩) (by first | (rw [add_block]; exact hn796_2) | (show (Addr.add _ _).block ≠ _; rw [add_block]; exact hn796_2) | exact hn796_2) (.slice zu zg.length zn)).trans hx796_0; clear hn796_0; clear hn796_1; clear hn796_2; replace p796 := eq_true p796; replace q796 := eq_true q796; have p797 : 0 ≤ (3 : Int) := (by omega); have q797 : 3 < (za.length : Int) := of_decide_eq_true pD; obtain ⟨ad797, e797, hx797_0⟩ := Kd.at_int (Kd.R_reads' zb.out).2.2 3 p797 q797; obtain rfl : ad795 = ad797 := (by injection e797); (try simp only [show (3 : Int).toNat = 3 from rfl, Nat.reduceMul, Nat.reduceEqDiff, Go.Addr.add, ↓reduceIte] at hx797_0); have qi797 : (3 < za.length) = True := eq_true (by omega); (try rw [show ((3 : Int)).toNat = 3 from rfl] at hx797_0); have hn797_0 : ad795.block ≠ ze := Kd.own_blk (Kd.R_ne zb.out zc.out (by decide)); have hn797_1 : ad795.block ≠ ze := Kd.own_blk (Kd.R_ne zb.out zc.out (by decide)); have hn797_2 : ad795.block ≠ ze := Kd.own_blk (Kd.R_ne zb.out zc.out (by decide)); replace hx797_0 := (cell_far (p := ⟨ze, 0, none⟩) (by first | (rw [add_block]; exact hn797_0) | (show (Addr.add _ _).block ≠ _; rw [add_block]; exact hn797_0) | exact hn797_0) (.int .i64 0)).trans hx797_0; replace hx797_0 := (cell_far (p := ⟨ze, 1, none⟩) (by first | (rw [add_block]; exact hn797_1) | (show (Addr.add _ _).block ≠ _; rw [add_block]; exact hn797_1) | exact hn797_1) (.slice zv zh.length zo)).trans hx797_0; replace hx797_0 := (cell_far (p := ⟨ze, 2, none⟩) (by first | (rw [add_block]; exact hn797_2) | (show (Addr.add _ _).block ≠ _; rw [add_block]; exact hn797_2) | exact hn797_2) (.slice zu zg.length zn)).trans hx797_0; clear hn797_0; clear hn797_1; clear hn797_2; replace p797 := eq_true p797; replace q797 := eq_true q797) | (go_at_call 30; (with_reducible refine (cells_Once.calls k 0 _ _ zh _ _ zg false _ ?s1 ?s2 ?s3 ?s4 A9.out).mono ?_); (case s1 => refine (Kd.R_reads' (e := 3) (base := w.heap.size) (ok := fun k_ => ((((True ∧ some k_ ≠ (.slice z3 zm.length z4 : Value).ownBlock) ∧ some k_ ≠ (.slice z1 zq.length z2 : Value).ownBlock) ∧ some k_ ≠ (.slice (some ad795) za.length z6 : Value).ownBlock) ∧ some k_ ≠ (.slice zu zg.length zn : Value).ownBlock)) (n := zh.length) (c := zo) ?_).2.2; exact (by (with_reducible repeat (first | apply rA | apply rN | apply rD)); exact (F3 zi zc (fun _ h_ => h_.1)))); (case s2 => exact sL zi); (case s3 => refine (Kd.R_reads' (e := 3) (base := w.heap.size) (ok := fun k_ => ((((True ∧ some k_ ≠ (.slice z3 zm.length z4 : Value).ownBlock) ∧ some k_ ≠ (.slice z1 zq.length z2 : Value).ownBlock) ∧ some k_ ≠ (.slice (some ad795) za.length z6 : Value).ownBlock) ∧ some k_ ≠ (.slice zv zh.length zo : Value).ownBlock)) (n := zg.length) (c := zn) ?_).2.2; exact (by (with_reducible repeat (first | apply rA | apply rN | apply rD)); exact (F3 zj zc (fun _ h_ => h_.1)))); (case s4 => exact sL zj); rintro e w28 ⟨rfl, hb⟩; replace zd := aM (Kd.R_below (by (with_reducible repeat (first | apply rA | apply rN | apply rD)); exact (F3 zd zc (fun _ h_ => h_.1))) hb); replace zf := aM (Kd.R_below (by (with_reducible repeat (first | apply rA | apply rN | apply rD)); exact (F3 zf zc (fun _ h_ => h_.1))) hb); replace zb := aM (Kd.R_below (by (with_reducible repeat (first | apply rA | apply rN | apply rD)); exact (F3 zb zc (fun _ h_ => h_.1))) hb); replace zi := aM (Kd.R_below (by (with_reducible repeat (first | apply rA | apply rN | apply rD)); exact (F3 zi zc (fun _ h_ => h_.1))) hb); replace zj := aM (Kd.R_below (by (with_reducible repeat (first | apply rA | apply rN | apply rD)); exact (F3 zj zc (fun _ h_ => h_.1))) hb); replace zc := aM (blk_below (g := ze) (o := .cells #[.int .i64 0, .slice zv zh.length zo, .slice zu zg.length zn] 24 (0, 0)) (by exact P3 zc) hb); replace HB := bS (qB1 HB zw) hb; (try clear hb); (try clear hk); (try clear hi); obtain ⟨hcz29_0, hcz29_1, hcz29_2, hfz29_0, hfz29_1, hfz29_2⟩ := blk3 zc.out) | (go_at_call 34; (with_reducible refine (cells_Times.calls k 0 _ _ zh _ _ zg 0 zl _ ?s1 ?s2 ?s3 ?s4 A11.out).mono ?_); (case s1 => exact sR zi); (case s2 => exact sL zi); (case s3 => exact sR zj); (case s4 => exact sL zj); rintro e w30 ⟨rfl, hb⟩; replace zd := bR zd hb; replace zf := bR zf hb; replace zb := bR zb hb; replace zi := bR zi hb; replace zj := bR zj hb; replace zc := bK zc hb; replace HB := bS (qB1 HB zw) hb; (try clear hb); (try clear hk); (try clear hi)))
 go_ret
 replace hv_ := hv_.out
 exact ⟨pE, qB1 HB zw⟩
end Go.Proofs.Ytjbpekblcecneaa.Q
