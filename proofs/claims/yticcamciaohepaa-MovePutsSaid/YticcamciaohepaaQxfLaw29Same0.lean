-- By wip/gprint.py (this session's), out of the kit's print.py.
import Derived.Test.YticcamciaohepaaQx0
import Derived.Test.YticcamciaohepaaQxfMoveFrom
import Derived.Test.YticcamciaohepaaQxfMoveSees
import Derived.Test.YticcamciaohepaaQxfMoveTo
namespace Go.Proofs.Yticcamciaohepaa.Q
open Go.RowKit Go.Proofs.YticcamciaohepaaW.PrintWords Go.Proofs.YticcamciaohepaaW.PrintLast Go.Proofs.YticcamciaohepaaW.PrintMore
attribute [local go_sem] max2_int min2_int max_two min_two max_three min_three max_four min_four   -- for this text's walks alone
set_option linter.unusedVariables false
set_option linter.unusedSimpArgs false

/-! ### gradinelaw29_same0: function 6 -/
def gradinelaw29_same0.f (k : Nat)  : Option (Bool) := (move_From.f k 38 0 0 0 0 0 0 0 0 false (([2, 0, 2] : List Int)) (([(([3] : List Int))] : List (List Int))) 2).bind fun bt470 => ((move_To.f k 0 2 0 0 0 0 0 0 false (([0, 1, 0] : List Int)) (([3] : List Int)) 2).bind fun bt479 => (if bt470.1 = 0 then (if bt470.2.1 = 2 then (if bt470.2.2 = true then (if bt479.1 = 0 then (if bt479.2 = true then ((move_Sees.f 37).bind fun zf => (if zf = true then ((move_Sees.f 38).bind fun zg => (some (!zg))) else (some false))) else (some false)) else (some false)) else (some false)) else (some false)) else (some false)))
set_option maxHeartbeats 8000000 in
set_option maxRecDepth 100000 in
theorem gradinelaw29_same0.calls (k : Nat)  (w : World) (h : gradinelaw29_same0.f k  = some true) :
  Calls Try.prog 6 #[] w fun e w' => e = .returned (.bool true) ∧ Below w.heap.size w w' := by
 have hu24 := Try.underlying24
 have HB := aM (Below.refl w.heap.size w)
 have H : ((move_From.f k 38 0 0 0 0 0 0 0 0 false (([2, 0, 2] : List Int)) (([(([3] : List Int))] : List (List Int))) 2).bind fun bt470 => ((move_To.f k 0 2 0 0 0 0 0 0 false (([0, 1, 0] : List Int)) (([3] : List Int)) 2).bind fun bt479 => (if bt470.1 = 0 then (if bt470.2.1 = 2 then (if bt470.2.2 = true then (if bt479.1 = 0 then (if bt479.2 = true then ((move_Sees.f 37).bind fun zf => (if zf = true then ((move_Sees.f 38).bind fun zg => (some (!zg))) else (some false))) else (some false)) else (some false)) else (some false)) else (some false)) else (some false)))) = some true := h
 clear h
 obtain ⟨zh, zr⟩ : ∃ y_ : List Int, y_ = (([2, 0, 2] : List Int)) := ⟨_, rfl⟩
 replace H : ((move_From.f k 38 0 0 0 0 0 0 0 0 false zh (([(([3] : List Int))] : List (List Int))) 2).bind fun bt470 => ((move_To.f k 0 2 0 0 0 0 0 0 false (([0, 1, 0] : List Int)) (([3] : List Int)) 2).bind fun bt479 => (if bt470.1 = 0 then (if bt470.2.1 = 2 then (if bt470.2.2 = true then (if bt479.1 = 0 then (if bt479.2 = true then ((move_Sees.f 37).bind fun zf => (if zf = true then ((move_Sees.f 38).bind fun zg => (some (!zg))) else (some false))) else (some false)) else (some false)) else (some false)) else (some false)) else (some false)))) = some true := pH zr H
 have zy := aM zr
 clear zr
 obtain ⟨zp, zs⟩ : ∃ y_ : List Int, y_ = (([3] : List Int)) := ⟨_, rfl⟩
 replace H : ((move_From.f k 38 0 0 0 0 0 0 0 0 false zh (([zp] : List (List Int))) 2).bind fun bt470 => ((move_To.f k 0 2 0 0 0 0 0 0 false (([0, 1, 0] : List Int)) (([3] : List Int)) 2).bind fun bt479 => (if bt470.1 = 0 then (if bt470.2.1 = 2 then (if bt470.2.2 = true then (if bt479.1 = 0 then (if bt479.2 = true then ((move_Sees.f 37).bind fun zf => (if zf = true then ((move_Sees.f 38).bind fun zg => (some (!zg))) else (some false))) else (some false)) else (some false)) else (some false)) else (some false)) else (some false)))) = some true := pH zs H
 have zz := aM zs
 clear zs
 obtain ⟨z3, zt⟩ : ∃ y_ : List (List Int), y_ = (([zp] : List (List Int))) := ⟨_, rfl⟩
 replace H : ((move_From.f k 38 0 0 0 0 0 0 0 0 false zh z3 2).bind fun bt470 => ((move_To.f k 0 2 0 0 0 0 0 0 false (([0, 1, 0] : List Int)) (([3] : List Int)) 2).bind fun bt479 => (if bt470.1 = 0 then (if bt470.2.1 = 2 then (if bt470.2.2 = true then (if bt479.1 = 0 then (if bt479.2 = true then ((move_Sees.f 37).bind fun zf => (if zf = true then ((move_Sees.f 38).bind fun zg => (some (!zg))) else (some false))) else (some false)) else (some false)) else (some false)) else (some false)) else (some false)))) = some true := pH zt H
 have z0 := aM zt
 clear zt
 replace H := Option.bind_eq_some_iff.mp H
 obtain ⟨⟨zl, zm, z4⟩, A10, H⟩ := H
 try dsimp only at H
 have A1 := aM A10
 clear A10
 obtain ⟨zw, zu⟩ : ∃ y_ : List Int, y_ = (([0, 1, 0] : List Int)) := ⟨_, rfl⟩
 replace H : ((move_To.f k 0 2 0 0 0 0 0 0 false zw (([3] : List Int)) 2).bind fun bt479 => (if zl = 0 then (if zm = 2 then (if z4 = true then (if bt479.1 = 0 then (if bt479.2 = true then ((move_Sees.f 37).bind fun zf => (if zf = true then ((move_Sees.f 38).bind fun zg => (some (!zg))) else (some false))) else (some false)) else (some false)) else (some false)) else (some false)) else (some false))) = some true := pH zu H
 have z1 := aM zu
 clear zu
 obtain ⟨zx, zv⟩ : ∃ y_ : List Int, y_ = (([3] : List Int)) := ⟨_, rfl⟩
 replace H : ((move_To.f k 0 2 0 0 0 0 0 0 false zw zx 2).bind fun bt479 => (if zl = 0 then (if zm = 2 then (if z4 = true then (if bt479.1 = 0 then (if bt479.2 = true then ((move_Sees.f 37).bind fun zf => (if zf = true then ((move_Sees.f 38).bind fun zg => (some (!zg))) else (some false))) else (some false)) else (some false)) else (some false)) else (some false)) else (some false))) = some true := pH zv H
 have z2 := aM zv
 clear zv
 replace H := Option.bind_eq_some_iff.mp H
 obtain ⟨⟨zq, t480⟩, A20, H⟩ := H
 try dsimp only at H
 have A2 := aM A20
 clear A20
 by_cases c3 : zl = 0
 rotate_left
 ·rw [if_neg c3] at H
  have c3b0 : (zl == 0) = false := beq_eq_false_iff_ne.mpr c3
  have c3b1 : (zl != 0) = true := bne_iff_ne.mpr c3
  exact absurd H (by simp)

 rw [if_pos c3] at H
 have c3b0 : (zl == 0) = true := beq_iff_eq.mpr c3
 have c3b1 : (zl != 0) = false := bne_eq_false_iff_eq.mpr c3
 clear c3
 by_cases c4 : zm = 2
 rotate_left
 ·rw [if_neg c4] at H
  have c4b0 : (zm == 2) = false := beq_eq_false_iff_ne.mpr c4
  have c4b1 : (zm != 2) = true := bne_iff_ne.mpr c4
  exact absurd H (by simp)
 rw [if_pos c4] at H
 have c4b0 : (zm == 2) = true := beq_iff_eq.mpr c4
 have c4b1 : (zm != 2) = false := bne_eq_false_iff_eq.mpr c4
 clear c4
 by_cases c5 : z4 = true
 rotate_left
 ·replace c5 := Bool.eq_false_iff.mpr c5
  subst c5
  rw [if_neg (show ¬ (false = true) by decide)] at H
  exact absurd H (by simp)
 subst c5
 rw [if_pos rfl] at H
 by_cases c6 : zq = 0
 rotate_left
 ·rw [if_neg c6] at H
  have c6b0 : (zq == 0) = false := beq_eq_false_iff_ne.mpr c6
  have c6b1 : (zq != 0) = true := bne_iff_ne.mpr c6
  exact absurd H (by simp)
 rw [if_pos c6] at H
 have c6b0 : (zq == 0) = true := beq_iff_eq.mpr c6
 have c6b1 : (zq != 0) = false := bne_eq_false_iff_eq.mpr c6
 clear c6
 by_cases c7 : t480 = true
 rotate_left
 ·replace c7 := Bool.eq_false_iff.mpr c7
  subst c7
  rw [if_neg (show ¬ (false = true) by decide)] at H
  exact absurd H (by simp)
 subst c7
 rw [if_pos rfl] at H
 replace H := Option.bind_eq_some_iff.mp H
 obtain ⟨zf, A80, H⟩ := H
 try dsimp only at H
 have A8 := aM A80
 clear A80
 by_cases c9 : zf = true
 rotate_left
 ·replace c9 := Bool.eq_false_iff.mpr c9
  subst c9
  rw [if_neg (show ¬ (false = true) by decide)] at H
  exact absurd H (by simp)
 subst c9
 rw [if_pos rfl] at H
 replace H := Option.bind_eq_some_iff.mp H
 obtain ⟨zg, z5, H⟩ := H
 try dsimp only at H
 have A10 := aM z5
 clear z5
 have hv_ := aM (Option.some.inj H)
 clear H
 go_enter Try.func6, Try.ntmps6
 go_wp2_with (first | ((with_reducible refine gate_dst (N := 7) rfl ?_); refine Kd.R_lit (Kd.int .i64) _ 3 ?hg (N := 7) ?hd (xs := ([2, 0, 2] : List Int)) (inner := [.int .i64 2, .int .i64 0, .int .i64 2]) (ok := fun _ => True) (okp := fun _ => True) ?hr ?hp (fun _ hk => hk) trivial (Below.refl _ _) (Nat.le_refl _) (by simp) ?_; (case hd => rfl); (case hg => rfl); (case hr => first | (go_simp; done) | (go_simp; rfl)); (case hp => exact (Reps.one (show Kd.M (Kd.int .i64) _ _ _ 2 [.int .i64 2] from rfl) (Reps.one (show Kd.M (Kd.int .i64) _ _ _ 0 [.int .i64 0] from rfl) (Reps.one (show Kd.M (Kd.int .i64) _ _ _ 2 [.int .i64 2] from rfl) (Reps.none _ _))))); intro v461 w11 ho12 hb hg_ hnew_; clear hg_ hnew_; (first | rw [← zy.out] at ho12 | (simp only [Int.reduceToNat] at ho12; rw [← zy.out] at ho12)); have zb := aM (Kd.R_lower ho12 (below_size (qB HB))); replace HB := bS (qB HB) hb; clear hb ho12; obtain ⟨zj, zk, eo13⟩ := Kd.R_slice zb.out; subst eo13) | ((with_reducible refine gate_dst (N := 1) rfl ?_); refine box_event ?hg (N := 1) ?hd (cs := #[.int .i64 0, .int .i64 0, .int .i64 0, .int .i64 0, .int .i64 0, .int .i64 0, .int .i64 0, .int .i64 0, .bool false, .slice none 0 0]) (t := 24) ?hr ?_; (case hd => rfl); (case hg => rfl); (case hr => first | (go_simp; done) | (go_simp; rfl)); intro za hg w14 hbox hb; replace zb := bR zb hb; have zc := aM (hbox); have GW463 := gE (w := w) hg (qB HB); have ze := GW463; replace HB := bS (qB HB) hb; clear hb hbox hg; obtain ⟨hcz15_0, hcz15_1, hcz15_2, hcz15_3, hcz15_4, hcz15_5, hcz15_6, hcz15_7, hcz15_8, hcz15_9, hfz15_0, hfz15_1, hfz15_2, hfz15_3, hfz15_4, hfz15_5, hfz15_6, hfz15_7, hfz15_8, hfz15_9⟩ := blk10 zc.out) | ((with_reducible refine gate_dst (N := 11) rfl ?_); refine Kd.R_lit (Kd.int .i64) _ 3 ?hg (N := 11) ?hd (xs := ([3] : List Int)) (inner := [.int .i64 3]) (ok := fun _ => True) (okp := fun _ => True) ?hr ?hp (fun _ hk => hk) trivial (Below.refl _ _) (Nat.le_refl _) (by simp) ?_; (case hd => rfl); (case hg => rfl); (case hr => first | (go_simp; done) | (go_simp; rfl)); (case hp => exact (Reps.one (show Kd.M (Kd.int .i64) _ _ _ 3 [.int .i64 3] from rfl) (Reps.none _ _))); intro v465 w16 ho17 hb hg_ hnew_; clear hg_ hnew_; (first | rw [← zz.out] at ho17 | (simp only [Int.reduceToNat] at ho17; rw [← zz.out] at ho17)); have zn := aM (Kd.R_lower (Kd.R_new' ho17 (Kd.R_lt (by (with_reducible repeat (first | apply rA | apply rN | apply rD)); exact (Kd.R_mono (Kd.R_far (p := ⟨za, 9, none⟩) (Kd.R_far (p := ⟨za, 8, none⟩) (Kd.R_far (p := ⟨za, 7, none⟩) (Kd.R_far (p := ⟨za, 6, none⟩) (Kd.R_far (p := ⟨za, 5, none⟩) (Kd.R_far (p := ⟨za, 4, none⟩) (Kd.R_far (p := ⟨za, 3, none⟩) (Kd.R_far (p := ⟨za, 2, none⟩) (Kd.R_far (p := ⟨za, 1, none⟩) (Kd.R_far (p := ⟨za, 0, none⟩) (Kd.R_types zb.out zc.out (by decide)) (fun _ hk => hk.2) (.int .i64 0)) (fun _ hk => hk.2) (.int .i64 0)) (fun _ hk => hk.2) (.int .i64 0)) (fun _ hk => hk.2) (.int .i64 0)) (fun _ hk => hk.2) (.int .i64 0)) (fun _ hk => hk.2) (.int .i64 0)) (fun _ hk => hk.2) (.int .i64 0)) (fun _ hk => hk.2) (.int .i64 0)) (fun _ hk => hk.2) (.bool false)) (fun _ hk => hk.2) (.slice zj zh.length zk)) (fun _ h_ => h_.1))))) (below_size (qB1 HB ze))); replace zb := aM (Kd.R_elder' (by (with_reducible repeat (first | apply rA | apply rN | apply rD)); exact (Kd.R_mono (Kd.R_far (p := ⟨za, 9, none⟩) (Kd.R_far (p := ⟨za, 8, none⟩) (Kd.R_far (p := ⟨za, 7, none⟩) (Kd.R_far (p := ⟨za, 6, none⟩) (Kd.R_far (p := ⟨za, 5, none⟩) (Kd.R_far (p := ⟨za, 4, none⟩) (Kd.R_far (p := ⟨za, 3, none⟩) (Kd.R_far (p := ⟨za, 2, none⟩) (Kd.R_far (p := ⟨za, 1, none⟩) (Kd.R_far (p := ⟨za, 0, none⟩) (Kd.R_types zb.out zc.out (by decide)) (fun _ hk => hk.2) (.int .i64 0)) (fun _ hk => hk.2) (.int .i64 0)) (fun _ hk => hk.2) (.int .i64 0)) (fun _ hk => hk.2) (.int .i64 0)) (fun _ hk => hk.2) (.int .i64 0)) (fun _ hk => hk.2) (.int .i64 0)) (fun _ hk => hk.2) (.int .i64 0)) (fun _ hk => hk.2) (.int .i64 0)) (fun _ hk => hk.2) (.bool false)) (fun _ hk => hk.2) (.slice zj zh.length zk)) (fun _ h_ => h_.1))) (Kd.R_base ho17) hb); replace zc := aM (blk_below (g := za) (o := .cells #[.int .i64 0, .int .i64 0, .int .i64 0, .int .i64 0, .int .i64 0, .int .i64 0, .int .i64 0, .int .i64 0, .bool false, .slice zj zh.length zk] 24 (0, 0)) (by (with_reducible repeat (first | apply bN | apply bD | apply bA)); refine blk_put (cs := #[.int .i64 0, .int .i64 0, .int .i64 0, .int .i64 0, .int .i64 0, .int .i64 0, .int .i64 0, .int .i64 0, .bool false, .slice none 0 0]) ?_ 9 _ rfl; (with_reducible repeat (first | apply bN | apply bD | apply bA)); refine blk_put (cs := #[.int .i64 0, .int .i64 0, .int .i64 0, .int .i64 0, .int .i64 0, .int .i64 0, .int .i64 0, .int .i64 0, .bool false, .slice none 0 0]) ?_ 8 _ rfl; (with_reducible repeat (first | apply bN | apply bD | apply bA)); refine blk_put (cs := #[.int .i64 0, .int .i64 0, .int .i64 0, .int .i64 0, .int .i64 0, .int .i64 0, .int .i64 0, .int .i64 0, .bool false, .slice none 0 0]) ?_ 7 _ rfl; (with_reducible repeat (first | apply bN | apply bD | apply bA)); refine blk_put (cs := #[.int .i64 0, .int .i64 0, .int .i64 0, .int .i64 0, .int .i64 0, .int .i64 0, .int .i64 0, .int .i64 0, .bool false, .slice none 0 0]) ?_ 6 _ rfl; (with_reducible repeat (first | apply bN | apply bD | apply bA)); refine blk_put (cs := #[.int .i64 0, .int .i64 0, .int .i64 0, .int .i64 0, .int .i64 0, .int .i64 0, .int .i64 0, .int .i64 0, .bool false, .slice none 0 0]) ?_ 5 _ rfl; (with_reducible repeat (first | apply bN | apply bD | apply bA)); refine blk_put (cs := #[.int .i64 0, .int .i64 0, .int .i64 0, .int .i64 0, .int .i64 0, .int .i64 0, .int .i64 0, .int .i64 0, .bool false, .slice none 0 0]) ?_ 4 _ rfl; (with_reducible repeat (first | apply bN | apply bD | apply bA)); refine blk_put (cs := #[.int .i64 0, .int .i64 0, .int .i64 0, .int .i64 0, .int .i64 0, .int .i64 0, .int .i64 0, .int .i64 0, .bool false, .slice none 0 0]) ?_ 3 _ rfl; (with_reducible repeat (first | apply bN | apply bD | apply bA)); refine blk_put (cs := #[.int .i64 0, .int .i64 0, .int .i64 0, .int .i64 0, .int .i64 0, .int .i64 0, .int .i64 0, .int .i64 0, .bool false, .slice none 0 0]) ?_ 2 _ rfl; (with_reducible repeat (first | apply bN | apply bD | apply bA)); refine blk_put (cs := #[.int .i64 0, .int .i64 0, .int .i64 0, .int .i64 0, .int .i64 0, .int .i64 0, .int .i64 0, .int .i64 0, .bool false, .slice none 0 0]) ?_ 1 _ rfl; (with_reducible repeat (first | apply bN | apply bD | apply bA)); refine blk_put (cs := #[.int .i64 0, .int .i64 0, .int .i64 0, .int .i64 0, .int .i64 0, .int .i64 0, .int .i64 0, .int .i64 0, .bool false, .slice none 0 0]) ?_ 0 _ rfl; (with_reducible repeat (first | apply bN | apply bD | apply bA)); exact zc.out) hb); replace HB := bS (qB1 HB ze) hb; clear hb ho17; obtain ⟨z6, z7, eo18⟩ := Kd.R_slice zn.out; subst eo18) | ((with_reducible refine gate_dst (N := 12) rfl ?_); refine Kd.N_lit (Kd.slice 3 (Kd.int .i64)) _ 22 ?hg (N' := 12) ?hd (xs := ([zp] : List (List Int))) (inner := [.slice z6 zp.length z7]) (ok := (fun k_ => some k_ ≠ (.slice zj zh.length zk : Value).ownBlock ∧ k_ ≠ za)) (okp := (fun k_ => some k_ ≠ (.slice zj zh.length zk : Value).ownBlock ∧ k_ ≠ za)) ?hr ?hp (fun _ hk => hk) ((show ∀ k_, w16.heap.size ≤ k_ → (fun k_ => some k_ ≠ (.slice zj zh.length zk : Value).ownBlock ∧ k_ ≠ za) k_ from fun k_ hk => ⟨Kd.fresh' (Kd.R_lt (pR zb.out)) k_ hk, Kd.freshB (g := za) (pK zc.out) k_ hk⟩) _ (Nat.le_refl _)) (Below.refl _ _) (Nat.le_refl _) (by simp) ?_; (case hd => rfl); (case hg => rfl); (case hr => first | (go_simp; done) | (go_simp; rfl)); (case hp => exact (Reps.one (show Kd.FK (Kd.slice 3 (Kd.int .i64)) _ _ zp [.slice z6 zp.length z7] from (Kd.FK_slice_mk (Kd.R_reads' (Kd.R_mono (ok' := (fun k_ => some k_ ≠ (.slice zj zh.length zk : Value).ownBlock ∧ k_ ≠ za)) (Kd.R_types (zn.out) zc.out (by decide)) (fun k_ hk => ⟨hk.1.2, hk.2⟩))).2.1 (Kd.R_F (Kd.R_mono (ok' := (fun k_ => some k_ ≠ (.slice zj zh.length zk : Value).ownBlock ∧ k_ ≠ za)) (Kd.R_types (zn.out) zc.out (by decide)) (fun k_ hk => ⟨hk.1.2, hk.2⟩))))) (Reps.none _ _))); intro v468 w19 ho20 hb hg_ hnew_; clear hg_ hnew_; (first | rw [← z0.out] at ho20 | (simp only [Int.reduceToNat] at ho20; rw [← z0.out] at ho20)); replace zb := bR zb hb; have zd := aM (Kd.N_lower ho20 (below_size (qB1 HB ze))); replace zc := bK zc hb; replace HB := bS (qB1 HB ze) hb; clear zn; clear hb ho20; obtain ⟨Ao21, co21, eo21⟩ := Kd.N_slice zd.out; subst eo21) | ((with_reducible refine gate_callee (f := 12) rfl ?_); refine goesL_ (some 13) rfl rfl Try.func12 (by kernel_rfl) rfl #[.int .i64 38, .agg #[.int .i64 0, .int .i64 0, .int .i64 0, .int .i64 0, .int .i64 0, .int .i64 0, .int .i64 0, .int .i64 0, .bool false, .slice zj zh.length zk], .slice Ao21 z3.length co21, .int .i64 2] rfl pA ?_; (with_reducible refine (move_From.calls k 38 0 0 0 0 0 0 0 0 false _ _ zh _ _ z3 2 zl zm true _ ?s1 ?s2 ?s3 ?s4 A1.out).mono ?_); (case s1 => exact sR zb); (case s2 => exact sL zb); (case s3 => exact pC (Kd.N_reads' zd.out).2.2); (case s4 => exact (Kd.N_reads' zd.out).2.1); rintro e w22 ⟨rfl, hb⟩; refine ⟨_, rfl, ?_⟩; replace zb := bR zb hb; replace zd := aM (Kd.N_below (by (with_reducible repeat (first | apply Kd.N_alloc | apply Kd.N_drewN | apply Kd.N_drew)); exact zd.out) hb); replace zc := bK zc hb; replace HB := bS (qB1 HB ze) hb; (try clear hb); (try clear hk); (try clear hi)) | ((with_reducible refine gate_dst (N := 18) rfl ?_); refine Kd.R_lit (Kd.int .i64) _ 3 ?hg (N := 18) ?hd (xs := ([0, 1, 0] : List Int)) (inner := [.int .i64 0, .int .i64 1, .int .i64 0]) (ok := fun _ => True) (okp := fun _ => True) ?hr ?hp (fun _ hk => hk) trivial (Below.refl _ _) (Nat.le_refl _) (by simp) ?_; (case hd => rfl); (case hg => rfl); (case hr => first | (go_simp; done) | (go_simp; rfl)); (case hp => exact (Reps.one (show Kd.M (Kd.int .i64) _ _ _ 0 [.int .i64 0] from rfl) (Reps.one (show Kd.M (Kd.int .i64) _ _ _ 1 [.int .i64 1] from rfl) (Reps.one (show Kd.M (Kd.int .i64) _ _ _ 0 [.int .i64 0] from rfl) (Reps.none _ _))))); intro v474 w23 ho24 hb hg_ hnew_; clear hg_ hnew_; (first | rw [← z1.out] at ho24 | (simp only [Int.reduceToNat] at ho24; rw [← z1.out] at ho24)); replace zd := aM (Kd.N_elder' (by (with_reducible repeat (first | apply Kd.N_alloc | apply Kd.N_drewN | apply Kd.N_drew)); exact zd.out) (Kd.R_base ho24) hb); have zi := aM (Kd.R_lower (Kd.R_new' ho24 (Kd.R_lt (pR zb.out))) (below_size (qB1 HB ze))); replace zb := eR zb ho24 hb; replace zc := bK zc hb; replace HB := bS (qB1 HB ze) hb; clear hb ho24; obtain ⟨Ao25, co25, eo25⟩ := Kd.R_slice zi.out; subst eo25) | ((with_reducible refine gate_dst (N := 20) rfl ?_); refine Kd.R_lit (Kd.int .i64) _ 3 ?hg (N := 20) ?hd (xs := ([3] : List Int)) (inner := [.int .i64 3]) (ok := fun _ => True) (okp := fun _ => True) ?hr ?hp (fun _ hk => hk) trivial (Below.refl _ _) (Nat.le_refl _) (by simp) ?_; (case hd => rfl); (case hg => rfl); (case hr => first | (go_simp; done) | (go_simp; rfl)); (case hp => exact (Reps.one (show Kd.M (Kd.int .i64) _ _ _ 3 [.int .i64 3] from rfl) (Reps.none _ _))); intro v477 w26 ho27 hb hg_ hnew_; clear hg_ hnew_; (first | rw [← z2.out] at ho27 | (simp only [Int.reduceToNat] at ho27; rw [← z2.out] at ho27)); replace zd := aM (Kd.N_elder' (by (with_reducible repeat (first | apply Kd.N_alloc | apply Kd.N_drewN | apply Kd.N_drew)); exact zd.out) (Kd.R_base ho27) hb); have zo := aM (Kd.R_lower (Kd.R_new' (Kd.R_new' ho27 (Kd.R_lt (pR zb.out))) (Kd.R_lt (pR zi.out))) (below_size (qB1 HB ze))); replace zb := eR zb ho27 hb; replace zi := eR zi ho27 hb; replace zc := bK zc hb; replace HB := bS (qB1 HB ze) hb; clear hb ho27; obtain ⟨z8, z9, eo28⟩ := Kd.R_slice zo.out; subst eo28) | ((with_reducible refine gate_callee (f := 8) rfl ?_); refine goesL_ (some 21) rfl rfl Try.func8 (by kernel_rfl) rfl #[.agg #[.int .i64 0, .int .i64 2, .int .i64 0, .int .i64 0, .int .i64 0, .int .i64 0, .int .i64 0, .int .i64 0, .bool false, .slice Ao25 zw.length co25], .slice z8 zx.length z9, .int .i64 2] rfl pA ?_; (with_reducible refine (move_To.calls k 0 2 0 0 0 0 0 0 false _ _ zw (fun k_ => some k_ = (.slice z8 zx.length z9 : Value).ownBlock) _ _ zx 2 zq true _ ?s1 ?s2 ?s3 A2.out).mono ?_); (case s1 => exact sR zi); (case s2 => exact sL zi); (case s3 => exact Kd.R_V (Kd.R_tight rfl (Kd.R_types (Kd.R_apart' (zo.out) (Kd.N_typed zd.out) (by decide)) zc.out (by decide)))); rintro e w29 ⟨rfl, hb⟩; refine ⟨_, rfl, ?_⟩; replace zb := bR zb hb; replace zd := aM (Kd.N_below (by (with_reducible repeat (first | apply Kd.N_alloc | apply Kd.N_drewN | apply Kd.N_drew)); exact zd.out) hb); replace zi := bR zi hb; replace zo := bR zo hb; replace zc := bK zc hb; replace HB := bS (qB1 HB ze) hb; (try clear hb); (try clear hk); (try clear hi)) | (go_at_call 13; (with_reducible refine (move_Sees.calls 37 true _ A8.out).mono ?_); rintro e w' ⟨rfl, ⟨nd, rfl⟩⟩) | (go_at_call 13; (with_reducible refine (move_Sees.calls 38 zg _ A10.out).mono ?_); rintro e w' ⟨rfl, ⟨nd, rfl⟩⟩))
 go_ret
 replace hv_ := hv_.out
 exact ⟨pE, qB1 HB ze⟩
end Go.Proofs.Yticcamciaohepaa.Q
