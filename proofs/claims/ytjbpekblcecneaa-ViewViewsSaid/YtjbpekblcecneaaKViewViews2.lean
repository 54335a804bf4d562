/- Texts of the proof of ViewViews, part 2: what functions of the program compute, and that they compute it. -/
import Derived.Test.YtjbpekblcecneaaWordsMore
import Derived.Test.YtjbpekblcecneaaKViewViews1
namespace Go.Proofs.Ytjbpekblcecneaa.Q
open Go.RowKit Go.Proofs.YtjbpekblcecneaaW.PrintWords Go.Proofs.YtjbpekblcecneaaW.PrintLast Go.Proofs.YtjbpekblcecneaaW.PrintMore
attribute [local go_sem] max2_int min2_int max_two min_two max_three min_three max_four min_four   -- for this text's walks alone
set_option linter.unusedVariables false
set_option linter.unusedSimpArgs false
mutual
def gradineref22_Cells.j0 : Nat → Int → Bool → Int → List Int → List Int → Option (List Int)
 | 0, _, _, _, _, _ => none
 | k + 1, x1, x38, x268000, x268001, x268002 => if x38 = true then (some ([] : List Int)) else (gradineref22_Cells.l0 k x1 (x268001.length : Int) 0 x268000 x268001 x268002)
def gradineref22_Cells.l0 : Nat → Int → Int → Int → Int → List Int → List Int → Option (List Int)
 | 0, _, _, _, _, _, _ => none
 | k + 1, x1, x41, x42, x268000, x268001, x268002 => if x42 < x41 then (if 0 ≤ x42 then (if x42 < (x268001.length : Int) then (if (rd x268001 x42) > 1 then (if x42 < (x268002.length : Int) then (if (rd x268002 x42) ≥ x1 then (some ([] : List Int)) else (if (rd x268002 x42) ≤ (wrap64 (-x1)) then (some ([] : List Int)) else (gradineref22_Cells.l0 k x1 x41 (wrap64 (x42 + 1)) x268000 x268001 x268002))) else (none)) else (gradineref22_Cells.l0 k x1 x41 (wrap64 (x42 + 1)) x268000 x268001 x268002)) else (none)) else (none)) else ((gradineref20_All.f k x268001).bind fun t272 => (gradineref22_Cells.l1 k x1 t272 ([] : List Int) (t272.length : Int) 0 x268000 x268001 x268002))
def gradineref22_Cells.l1 : Nat → Int → List (List Int) → List Int → Int → Int → Int → List Int → List Int → Option (List Int)
 | 0, _, _, _, _, _, _, _, _ => none
 | k + 1, x1, x6, x7, x75, x76, x268000, x268001, x268002 => if x76 < x75 then (if 0 ≤ x76 then (if x76 < (x6.length : Int) then (gradineref22_Cells.l2 k x1 x6 x7 x76 x268000 x75 x76 ((rd_L1 x6 x76).length : Int) 0 x268000 x268001 x268002) else (none)) else (none)) else (some x7)
def gradineref22_Cells.l2 : Nat → Int → List (List Int) → List Int → Int → Int → Int → Int → Int → Int → Int → List Int → List Int → Option (List Int)
 | 0, _, _, _, _, _, _, _, _, _, _, _, _ => none
 | k + 1, x1, x6, x7, x8, x9, x75, x76, x85, x86, x268000, x268001, x268002 => if x86 < x85 then (if 0 ≤ x8 then (if x8 < (x6.length : Int) then (if 0 ≤ x86 then (if x86 < ((rd_L1 x6 x8).length : Int) then (if (rd (rd_L1 x6 x8) x86) > 0 then (if x86 < (x268002.length : Int) then (gradineref22_Cells.l2 k x1 x6 x7 x8 (wrap64 (x9 + (wrap64 ((rd (rd_L1 x6 x8) x86) * (rd x268002 x86))))) x75 x76 x85 (wrap64 (x86 + 1)) x268000 x268001 x268002) else (none)) else (gradineref22_Cells.l2 k x1 x6 x7 x8 x9 x75 x76 x85 (wrap64 (x86 + 1)) x268000 x268001 x268002)) else (none)) else (none)) else (none)) else (none)) else (if x9 < 0 then (some ([] : List Int)) else (if x9 ≥ x1 then (some ([] : List Int)) else (if x7.length < 17592186044416 then (gradineref22_Cells.l1 k x1 x6 (x7 ++ [x9]) x75 (wrap64 (x76 + 1)) x268000 x268001 x268002) else (none))))
end
def gradineref22_Cells.f (k : Nat) (a0_0 : Int) (l0_1 : List Int) (l0_2 : List Int) (a1 : Int) : Option (List Int) := (gradineref19_Check.f k l0_1).bind fun t268 => (if t268 = 0 then (if (l0_2.length : Int) = (l0_1.length : Int) then (if a1 > 64 then (gradineref22_Cells.j0 k a1 true a0_0 l0_1 l0_2) else (if a0_0 < 0 then (gradineref22_Cells.j0 k a1 true a0_0 l0_1 l0_2) else (gradineref22_Cells.j0 k a1 (decide (a0_0 ≥ a1)) a0_0 l0_1 l0_2))) else (gradineref22_Cells.j0 k a1 true a0_0 l0_1 l0_2)) else (gradineref22_Cells.j0 k a1 true a0_0 l0_1 l0_2))
set_option maxHeartbeats 8000000 in
set_option maxRecDepth 100000 in
theorem gradineref22_Cells.calls (k : Nat) (a0_0 : Int) (A0_1 : Option Addr) (c0_1 : Nat) (l0_1 : List Int) (A0_2 : Option Addr) (c0_2 : Nat) (l0_2 : List Int) (a1 : Int) (r : List Int) (w : World) (hr0_1 : Kd.C (Kd.int .i64) w A0_1 l0_1.length l0_1) (hc0_1 : l0_1.length ≤ c0_1) (hr0_2 : Kd.C (Kd.int .i64) w A0_2 l0_2.length l0_2) (hc0_2 : l0_2.length ≤ c0_2) (h : gradineref22_Cells.f k a0_0 l0_1 l0_2 a1 = some r) :
  Calls Try.prog 10 #[.agg #[.int .i64 a0_0, .slice A0_1 l0_1.length c0_1, .slice A0_2 l0_2.length c0_2], .int .i64 a1] w fun e w' => ∃ v0_ : Value, e = .returned (v0_) ∧ Kd.R (Kd.int .i64) 3 w' w.heap.size (fun _ => True) v0_ r ∧ Below w.heap.size w w' := by
 have hu24 := Try.underlying24
 have HR0_1 := aM hr0_1
 have HC0_1 := aM hc0_1
 clear hr0_1 hc0_1
 have HR0_2 := aM hr0_2
 have HC0_2 := aM hc0_2
 clear hr0_2 hc0_2
 have HB := aM (Below.refl w.heap.size w)
 have H : ((gradineref19_Check.f k l0_1).bind fun t268 => (if t268 = 0 then (if (l0_2.length : Int) = (l0_1.length : Int) then (if a1 > 64 then (gradineref22_Cells.j0 k a1 true a0_0 l0_1 l0_2) else (if a0_0 < 0 then (gradineref22_Cells.j0 k a1 true a0_0 l0_1 l0_2) else (gradineref22_Cells.j0 k a1 (decide (a0_0 ≥ a1)) a0_0 l0_1 l0_2))) else (gradineref22_Cells.j0 k a1 true a0_0 l0_1 l0_2)) else (gradineref22_Cells.j0 k a1 true a0_0 l0_1 l0_2))) = some r := h
 clear h
 have HC3 := aM H
 clear H
 go_enter Try.func10, Try.ntmps10
 go_upto_region 1 with (first | ((with_reducible refine gate_dst (N := 2) rfl ?_); (try (refine gate_guard (by rfl) ?_; dsimp only)); refine box_event ?hg (N := 2) ?hd (cs := #[.int .i64 a0_0, .slice A0_1 l0_1.length c0_1, .slice A0_2 l0_2.length c0_2]) (t := 24) ?hr ?_; (case hd => rfl); (case hg => rfl); (case hr => first | (go_simp; done) | (go_simp; rfl)); intro gb267 hg w4 hbox hb; have BK267 := aM (hbox); have GW267 := gE (w := w) hg (qB HB); have GE267 := GW267; replace HB := bS (qB HB) hb; clear hb hbox hg))
 repeat (go_quiet (first | ((with_reducible refine gate_dst (N := 2) rfl ?_); (try (refine gate_guard (by rfl) ?_; dsimp only)); refine box_event ?hg (N := 2) ?hd (cs := #[.int .i64 a0_0, .slice A0_1 l0_1.length c0_1, .slice A0_2 l0_2.length c0_2]) (t := 24) ?hr ?_; (case hd => rfl); (case hg => rfl); (case hr => first | (go_simp; done) | (go_simp; rfl)); intro gb267 hg w4 hbox hb; have BK267 := aM (hbox); have GW267 := gE (w := w) hg (qB HB); have GE267 := GW267; replace HB := bS (qB HB) hb; clear hb hbox hg)); go_upto_region 1 with (first | ((with_reducible refine gate_dst (N := 2) rfl ?_); (try (refine gate_guard (by rfl) ?_; dsimp only)); refine box_event ?hg (N := 2) ?hd (cs := #[.int .i64 a0_0, .slice A0_1 l0_1.length c0_1, .slice A0_2 l0_2.length c0_2]) (t := 24) ?hr ?_; (case hd => rfl); (case hg => rfl); (case hr => first | (go_simp; done) | (go_simp; rfl)); intro gb267 hg w4 hbox hb; have BK267 := aM (hbox); have GW267 := gE (w := w) hg (qB HB); have GE267 := GW267; replace HB := bS (qB HB) hb; clear hb hbox hg)))
 (try simp only [Act.put, sP])
 go_cut [38] (fun v38 wc => ∃ (kq : Nat) (x38_2 : Bool), v38 = .bool x38_2 ∧ Aside0 (gradineref22_Cells.j0 kq a1 x38_2 a0_0 l0_1 l0_2 = some r) ∧ Aside0 (kq ≤ k) ∧ Aside0 (wc.heap[gb267]? = some (.cells #[.int .i64 a0_0, (.slice A0_1 l0_1.length c0_1), (.slice A0_2 l0_2.length c0_2)] 24 (0, 0))) ∧ Aside0 (Below w.heap.size w wc))
 case first =>
  have H := HC3.out
  clear HC3
  replace H := Option.bind_eq_some_iff.mp H
  obtain ⟨t268, A50, H⟩ := H
  try dsimp only at H
  have A5 := aM A50
  clear A50
  by_cases c6 : t268 = 0
  rotate_left
  ·rw [if_neg c6] at H
   have c6b0 : (t268 == 0) = false := beq_eq_false_iff_ne.mpr c6
   have c6b1 : (t268 != 0) = true := bne_iff_ne.mpr c6
   (first | rw [c6b0] | (simp only [i64_w, i32_w]; rw [c6b0]) | skip)
   have H' := aM H
   clear H
   obtain ⟨hcz14_0, hcz14_1, hcz14_2, hfz14_0, hfz14_1, hfz14_2⟩ := blk3 BK267.out
   go_wp2_with (first | (go_at_call 15; (with_reducible refine (gradineref19_Check.calls k _ _ l0_1 t268 _ ?s1 ?s2 A5.out).mono ?_); (case s1 => exact sC HR0_1 HB); (case s2 => exact HC0_1.out); rintro e w' ⟨rfl, ⟨nd, rfl⟩⟩; (try first | exact ⟨rfl, _, World.drewN_drewN _ _ _⟩ | exact ⟨rfl, _, Eq.trans (World.drewN_drewN _ _ _) (congrArg (World.drewN _) (Nat.add_assoc _ _ _))⟩)))
   repeat (go_quiet (first | (go_at_call 15; (with_reducible refine (gradineref19_Check.calls k _ _ l0_1 t268 _ ?s1 ?s2 A5.out).mono ?_); (case s1 => exact sC HR0_1 HB); (case s2 => exact HC0_1.out); rintro e w' ⟨rfl, ⟨nd, rfl⟩⟩; (try first | exact ⟨rfl, _, World.drewN_drewN _ _ _⟩ | exact ⟨rfl, _, Eq.trans (World.drewN_drewN _ _ _) (congrArg (World.drewN _) (Nat.add_assoc _ _ _))⟩))); try go_wp2_with (first | (go_at_call 15; (with_reducible refine (gradineref19_Check.calls k _ _ l0_1 t268 _ ?s1 ?s2 A5.out).mono ?_); (case s1 => exact sC HR0_1 HB); (case s2 => exact HC0_1.out); rintro e w' ⟨rfl, ⟨nd, rfl⟩⟩; (try first | exact ⟨rfl, _, World.drewN_drewN _ _ _⟩ | exact ⟨rfl, _, Eq.trans (World.drewN_drewN _ _ _) (congrArg (World.drewN _) (Nat.add_assoc _ _ _))⟩))))
   go_meet
   case rel => exact ⟨_, (true), (pF), H', ⟨by first | omega | exact Nat.le_refl _⟩, ⟨by (with_reducible repeat (first | apply bN | apply bD | apply bA)); exact BK267.out⟩, ⟨qB1 HB GE267⟩⟩
  rw [if_pos c6] at H
  have c6b0 : (t268 == 0) = true := beq_iff_eq.mpr c6
  have c6b1 : (t268 != 0) = false := bne_eq_false_iff_eq.mpr c6
  clear c6
  (first | rw [c6b0] | (simp only [i64_w, i32_w]; rw [c6b0]) | skip)
  by_cases c7 : (l0_2.length : Int) = (l0_1.length : Int)
  rotate_left
  ·rw [if_neg c7] at H
   have c7b0 : ((l0_2.length : Int) == (l0_1.length : Int)) = false := beq_eq_false_iff_ne.mpr c7
   have c7b1 : ((l0_2.length : Int) != (l0_1.length : Int)) = true := bne_iff_ne.mpr c7
   have c7b2 : (l0_2.length == l0_1.length) = false := by first | simpa using c7 | (simp at c7 ⊢; omega)
   have H' := aM H
   clear H
   obtain ⟨hcz13_0, hcz13_1, hcz13_2, hfz13_0, hfz13_1, hfz13_2⟩ := blk3 BK267.out
   go_wp2_with (first | (go_at_call 15; (with_reducible refine (gradineref19_Check.calls k _ _ l0_1 t268 _ ?s1 ?s2 A5.out).mono ?_); (case s1 => exact sC HR0_1 HB); (case s2 => exact HC0_1.out); rintro e w' ⟨rfl, ⟨nd, rfl⟩⟩; (try first | exact ⟨rfl, _, World.drewN_drewN _ _ _⟩ | exact ⟨rfl, _, Eq.trans (World.drewN_drewN _ _ _) (congrArg (World.drewN _) (Nat.add_assoc _ _ _))⟩)))
   repeat (go_quiet (first | (go_at_call 15; (with_reducible refine (gradineref19_Check.calls k _ _ l0_1 t268 _ ?s1 ?s2 A5.out).mono ?_); (case s1 => exact sC HR0_1 HB); (case s2 => exact HC0_1.out); rintro e w' ⟨rfl, ⟨nd, rfl⟩⟩; (try first | exact ⟨rfl, _, World.drewN_drewN _ _ _⟩ | exact ⟨rfl, _, Eq.trans (World.drewN_drewN _ _ _) (congrArg (World.drewN _) (Nat.add_assoc _ _ _))⟩))); try go_wp2_with (first | (go_at_call 15; (with_reducible refine (gradineref19_Check.calls k _ _ l0_1 t268 _ ?s1 ?s2 A5.out).mono ?_); (case s1 => exact sC HR0_1 HB); (case s2 => exact HC0_1.out); rintro e w' ⟨rfl, ⟨nd, rfl⟩⟩; (try first | exact ⟨rfl, _, World.drewN_drewN _ _ _⟩ | exact ⟨rfl, _, Eq.trans (World.drewN_drewN _ _ _) (congrArg (World.drewN _) (Nat.add_assoc _ _ _))⟩))))
   go_meet
   case rel => exact ⟨_, (true), (pF), H', ⟨by first | omega | exact Nat.le_refl _⟩, ⟨by (with_reducible repeat (first | apply bN | apply bD | apply bA)); exact BK267.out⟩, ⟨qB1 HB GE267⟩⟩
  rw [if_pos c7] at H
  have c7b0 : ((l0_2.length : Int) == (l0_1.length : Int)) = true := beq_iff_eq.mpr c7
  have c7b1 : ((l0_2.length : Int) != (l0_1.length : Int)) = false := bne_eq_false_iff_eq.mpr c7
  have c7b2 : (l0_2.length == l0_1.length) = true := by first | simpa using c7 | (simp at c7 ⊢; omega)
  clear c7
  by_cases c8 : a1 > 64
  ·rw [if_pos c8] at H
   have c8b0 : decide (64 < a1) = true := decide_eq_true c8
   clear c8
   have H' := aM H
   clear H
   obtain ⟨hcz9_0, hcz9_1, hcz9_2, hfz9_0, hfz9_1, hfz9_2⟩ := blk3 BK267.out
   go_wp2_with (first | (go_at_call 15; (with_reducible refine (gradineref19_Check.calls k _ _ l0_1 t268 _ ?s1 ?s2 A5.out).mono ?_); (case s1 => exact sC HR0_1 HB); (case s2 => exact HC0_1.out); rintro e w' ⟨rfl, ⟨nd, rfl⟩⟩; (try first | exact ⟨rfl, _, World.drewN_drewN _ _ _⟩ | exact ⟨rfl, _, Eq.trans (World.drewN_drewN _ _ _) (congrArg (World.drewN _) (Nat.add_assoc _ _ _))⟩)))
   repeat (go_quiet (first | (go_at_call 15; (with_reducible refine (gradineref19_Check.calls k _ _ l0_1 t268 _ ?s1 ?s2 A5.out).mono ?_); (case s1 => exact sC HR0_1 HB); (case s2 => exact HC0_1.out); rintro e w' ⟨rfl, ⟨nd, rfl⟩⟩; (try first | exact ⟨rfl, _, World.drewN_drewN _ _ _⟩ | exact ⟨rfl, _, Eq.trans (World.drewN_drewN _ _ _) (congrArg (World.drewN _) (Nat.add_assoc _ _ _))⟩))); try go_wp2_with (first | (go_at_call 15; (with_reducible refine (gradineref19_Check.calls k _ _ l0_1 t268 _ ?s1 ?s2 A5.out).mono ?_); (case s1 => exact sC HR0_1 HB); (case s2 => exact HC0_1.out); rintro e w' ⟨rfl, ⟨nd, rfl⟩⟩; (try first | exact ⟨rfl, _, World.drewN_drewN _ _ _⟩ | exact ⟨rfl, _, Eq.trans (World.drewN_drewN _ _ _) (congrArg (World.drewN _) (Nat.add_assoc _ _ _))⟩))))
   go_meet
   case rel => exact ⟨_, (true), (pF), H', ⟨by first | omega | exact Nat.le_refl _⟩, ⟨by (with_reducible repeat (first | apply bN | apply bD | apply bA)); exact BK267.out⟩, ⟨qB1 HB GE267⟩⟩
  rw [if_neg c8] at H
  have c8b0 : decide (64 < a1) = false := decide_eq_false c8
  clear c8
  by_cases c10 : a0_0 < 0
  ·rw [if_pos c10] at H
   have c10b0 : decide (a0_0 < 0) = true := decide_eq_true c10
   clear c10
   have H' := aM H
   clear H
   obtain ⟨hcz11_0, hcz11_1, hcz11_2, hfz11_0, hfz11_1, hfz11_2⟩ := blk3 BK267.out
   go_wp2_with (first | (go_at_call 15; (with_reducible refine (gradineref19_Check.calls k _ _ l0_1 t268 _ ?s1 ?s2 A5.out).mono ?_); (case s1 => exact sC HR0_1 HB); (case s2 => exact HC0_1.out); rintro e w' ⟨rfl, ⟨nd, rfl⟩⟩; (try first | exact ⟨rfl, _, World.drewN_drewN _ _ _⟩ | exact ⟨rfl, _, Eq.trans (World.drewN_drewN _ _ _) (congrArg (World.drewN _) (Nat.add_assoc _ _ _))⟩)))
   repeat (go_quiet (first | (go_at_call 15; (with_reducible refine (gradineref19_Check.calls k _ _ l0_1 t268 _ ?s1 ?s2 A5.out).mono ?_); (case s1 => exact sC HR0_1 HB); (case s2 => exact HC0_1.out); rintro e w' ⟨rfl, ⟨nd, rfl⟩⟩; (try first | exact ⟨rfl, _, World.drewN_drewN _ _ _⟩ | exact ⟨rfl, _, Eq.trans (World.drewN_drewN _ _ _) (congrArg (World.drewN _) (Nat.add_assoc _ _ _))⟩))); try go_wp2_with (first | (go_at_call 15; (with_reducible refine (gradineref19_Check.calls k _ _ l0_1 t268 _ ?s1 ?s2 A5.out).mono ?_); (case s1 => exact sC HR0_1 HB); (case s2 => exact HC0_1.out); rintro e w' ⟨rfl, ⟨nd, rfl⟩⟩; (try first | exact ⟨rfl, _, World.drewN_drewN _ _ _⟩ | exact ⟨rfl, _, Eq.trans (World.drewN_drewN _ _ _) (congrArg (World.drewN _) (Nat.add_assoc _ _ _))⟩))))
   go_meet
   case rel => exact ⟨_, (true), (pF), H', ⟨by first | omega | exact Nat.le_refl _⟩, ⟨by (with_reducible repeat (first | apply bN | apply bD | apply bA)); exact BK267.out⟩, ⟨qB1 HB GE267⟩⟩
  rw [if_neg c10] at H
  have c10b0 : decide (a0_0 < 0) = false := decide_eq_false c10
  clear c10
  have H' := aM H
  clear H
  obtain ⟨hcz12_0, hcz12_1, hcz12_2, hfz12_0, hfz12_1, hfz12_2⟩ := blk3 BK267.out
  go_wp2_with (first | (go_at_call 15; (with_reducible refine (gradineref19_Check.calls k _ _ l0_1 t268 _ ?s1 ?s2 A5.out).mono ?_); (case s1 => exact sC HR0_1 HB); (case s2 => exact HC0_1.out); rintro e w' ⟨rfl, ⟨nd, rfl⟩⟩; (try first | exact ⟨rfl, _, World.drewN_drewN _ _ _⟩ | exact ⟨rfl, _, Eq.trans (World.drewN_drewN _ _ _) (congrArg (World.drewN _) (Nat.add_assoc _ _ _))⟩)))
  repeat (go_quiet (first | (go_at_call 15; (with_reducible refine (gradineref19_Check.calls k _ _ l0_1 t268 _ ?s1 ?s2 A5.out).mono ?_); (case s1 => exact sC HR0_1 HB); (case s2 => exact HC0_1.out); rintro e w' ⟨rfl, ⟨nd, rfl⟩⟩; (try first | exact ⟨rfl, _, World.drewN_drewN _ _ _⟩ | exact ⟨rfl, _, Eq.trans (World.drewN_drewN _ _ _) (congrArg (World.drewN _) (Nat.add_assoc _ _ _))⟩))); try go_wp2_with (first | (go_at_call 15; (with_reducible refine (gradineref19_Check.calls k _ _ l0_1 t268 _ ?s1 ?s2 A5.out).mono ?_); (case s1 => exact sC HR0_1 HB); (case s2 => exact HC0_1.out); rintro e w' ⟨rfl, ⟨nd, rfl⟩⟩; (try first | exact ⟨rfl, _, World.drewN_drewN _ _ _⟩ | exact ⟨rfl, _, Eq.trans (World.drewN_drewN _ _ _) (congrArg (World.drewN _) (Nat.add_assoc _ _ _))⟩))))
  go_meet
  case rel => exact ⟨_, (decide (a0_0 ≥ a1)), (pF), H', ⟨by first | omega | exact Nat.le_refl _⟩, ⟨by (with_reducible repeat (first | apply bN | apply bD | apply bA)); exact BK267.out⟩, ⟨qB1 HB GE267⟩⟩
 case rest =>
  clear HC3
  obtain ⟨kq, x38_2, rfl, HA, HJ2, BK267, HB⟩ := hcut
  cases kq with
  | zero => exact absurd HA.out (by simp [gradineref22_Cells.j0])
  | succ kj2 =>
   have H := HA.out
   clear HA
   simp only [gradineref22_Cells.j0] at H
   by_cases c15 : x38_2 = true
   ·subst c15
    rw [if_pos rfl] at H
    obtain rfl := Option.some.inj H
    go_wp2
    repeat (go_quiet (fail); try go_wp2)
    go_ret
    exact ⟨_, pE, pN, qB1 HB GE267⟩
   replace c15 := Bool.eq_false_iff.mpr c15
   subst c15
   rw [if_neg (show ¬ (false = true) by decide)] at H
   have H' := aM H
   clear H
   obtain ⟨hcz16_0, hcz16_1, hcz16_2, hfz16_0, hfz16_1, hfz16_2⟩ := blk3 BK267.out
   go_wp2
   repeat (go_quiet (fail); try go_wp2)
   go_loopg [42] kj2 (fun kq v42 w' => ∃ (x42_2 : Int), v42 = .int .i64 x42_2 ∧ Aside0 (gradineref22_Cells.l0 kq a1 (l0_1.length : Int) x42_2 a0_0 l0_1 l0_2 = some r) ∧ Aside0 (kq ≤ kj2) ∧ Aside0 (w'.heap[gb267]? = some (.cells #[.int .i64 a0_0, (.slice A0_1 l0_1.length c0_1), (.slice A0_2 l0_2.length c0_2)] 24 (0, 0))) ∧ Aside0 (Below w.heap.size w w'))
   case atStart => exact ⟨(0), (pF), H', ⟨Nat.le_refl _⟩, ⟨by (with_reducible repeat (first | apply bN | apply bD | apply bA)); exact BK267.out⟩, ⟨qB1 HB GE267⟩⟩
   case round =>
    clear H'
    try clear c15
    try clear hcz16_0 hcz16_1 hcz16_2 hfz16_0 hfz16_1 hfz16_2
    obtain ⟨x42_2, rfl, HA, HK2, BK267, HB⟩ := hrel
    cases gk with
    | zero => exact absurd HA.out (by simp [gradineref22_Cells.l0])
    | succ k2 =>
     have H := HA.out
     clear HA
     simp only [gradineref22_Cells.l0] at H
     by_cases c17 : x42_2 < (l0_1.length : Int)
     ·rw [if_pos c17] at H
      have c17b0 : decide (x42_2 < (l0_1.length : Int)) = true := decide_eq_true c17
      clear c17
      by_cases c18 : 0 ≤ x42_2
      rotate_left
      ·rw [if_neg c18] at H
       exact absurd H (by simp)
      rw [if_pos c18] at H
      have c18b0 : decide (0 ≤ x42_2) = true := decide_eq_true c18
      clear c18
      by_cases c19 : x42_2 < (l0_1.length : Int)
      rotate_left
      ·rw [if_neg c19] at H
       exact absurd H (by simp)
      rw [if_pos c19] at H
      have c19b0 : decide (x42_2 < (l0_1.length : Int)) = true := decide_eq_true c19
      clear c19
      by_cases c20 : (rd l0_1 x42_2) > 1
      rotate_left
      ·rw [if_neg c20] at H
       have c20b0 : decide (1 < (rd l0_1 x42_2)) = false := decide_eq_false c20
       clear c20
       have H' := aM H
       clear H
       obtain ⟨hcz27_0, hcz27_1, hcz27_2, hfz27_0, hfz27_1, hfz27_2⟩ := blk3 BK267.out
       have p269 : 0 ≤ (x42_2 : Int) := of_decide_eq_true pD
       have q269 : x42_2 < (l0_1.length : Int) := of_decide_eq_true pD
       obtain ⟨ad269, e269, hx269_0⟩ := Kd.at_int HR0_1.out x42_2 p269 q269
       cases e269
       replace hx269_0 := (HB.out.cell (World.block_lt_of_cell? w _ hx269_0)).trans hx269_0
       replace p269 := eq_true p269
       replace q269 := eq_true q269
       go_wp2
       repeat (go_quiet (fail); try go_wp2)
       go_roundg k2
       case measure => have := HJ2.out; have := HK2.out; omega
       case rel => exact ⟨(wrap64 (x42_2 + 1)), (pF), H', ⟨by have := HJ2.out; have := HK2.out; omega⟩, ⟨by (with_reducible repeat (first | apply bN | apply bD | apply bA)); exact BK267.out⟩, ⟨qB1 HB GE267⟩⟩
      rw [if_pos c20] at H
      have c20b0 : decide (1 < (rd l0_1 x42_2)) = true := decide_eq_true c20
      clear c20
      by_cases c21 : x42_2 < (l0_2.length : Int)
      rotate_left
      ·rw [if_neg c21] at H
       exact absurd H (by simp)
      rw [if_pos c21] at H
      have c21b0 : decide (x42_2 < (l0_2.length : Int)) = true := decide_eq_true c21
      clear c21
      by_cases c22 : (rd l0_2 x42_2) ≥ a1
      ·rw [if_pos c22] at H
       have c22b0 : decide (a1 ≤ (rd l0_2 x42_2)) = true := decide_eq_true c22
       clear c22
       obtain rfl := Option.some.inj H
       obtain ⟨hcz23_0, hcz23_1, hcz23_2, hfz23_0, hfz23_1, hfz23_2⟩ := blk3 BK267.out
       have p269 : 0 ≤ (x42_2 : Int) := of_decide_eq_true pD
       have q269 : x42_2 < (l0_1.length : Int) := of_decide_eq_true pD
       obtain ⟨ad269, e269, hx269_0⟩ := Kd.at_int HR0_1.out x42_2 p269 q269
       cases e269
       replace hx269_0 := (HB.out.cell (World.block_lt_of_cell? w _ hx269_0)).trans hx269_0
       replace p269 := eq_true p269
       replace q269 := eq_true q269
       have p270 : 0 ≤ (x42_2 : Int) := of_decide_eq_true pD
       have q270 : x42_2 < (l0_2.length : Int) := of_decide_eq_true pD
       obtain ⟨ad270, e270, hx270_0⟩ := Kd.at_int HR0_2.out x42_2 p270 q270
       cases e270
       replace hx270_0 := (HB.out.cell (World.block_lt_of_cell? w _ hx270_0)).trans hx270_0
       replace p270 := eq_true p270
       replace q270 := eq_true q270
       go_wp2
       repeat (go_quiet (fail); try go_wp2)
       go_ret
       exact ⟨_, pE, pN, qB1 HB GE267⟩
      rw [if_neg c22] at H
      have c22b0 : decide (a1 ≤ (rd l0_2 x42_2)) = false := decide_eq_false c22
      clear c22
      by_cases c24 : (rd l0_2 x42_2) ≤ (wrap64 (-a1))
      ·rw [if_pos c24] at H
       have c24b0 : decide ((rd l0_2 x42_2) ≤ (wrap64 (-a1))) = true := decide_eq_true c24
       clear c24
       obtain rfl := Option.some.inj H
       obtain ⟨hcz25_0, hcz25_1, hcz25_2, hfz25_0, hfz25_1, hfz25_2⟩ := blk3 BK267.out
       have p269 : 0 ≤ (x42_2 : Int) := of_decide_eq_true pD
       have q269 : x42_2 < (l0_1.length : Int) := of_decide_eq_true pD
       obtain ⟨ad269, e269, hx269_0⟩ := Kd.at_int HR0_1.out x42_2 p269 q269
       cases e269
       replace hx269_0 := (HB.out.cell (World.block_lt_of_cell? w _ hx269_0)).trans hx269_0
       replace p269 := eq_true p269
       replace q269 := eq_true q269
       have p270 : 0 ≤ (x42_2 : Int) := of_decide_eq_true pD
       have q270 : x42_2 < (l0_2.length : Int) := of_decide_eq_true pD
       obtain ⟨ad270, e270, hx270_0⟩ := Kd.at_int HR0_2.out x42_2 p270 q270
       cases e270
       replace hx270_0 := (HB.out.cell (World.block_lt_of_cell? w _ hx270_0)).trans hx270_0
       replace p270 := eq_true p270
       replace q270 := eq_true q270
       have p271 : 0 ≤ (x42_2 : Int) := of_decide_eq_true pD
       have q271 : x42_2 < (l0_2.length : Int) := of_decide_eq_true pD
       obtain ⟨ad271, e271, hx271_0⟩ := Kd.at_int HR0_2.out x42_2 p271 q271
       obtain rfl : ad270 = ad271 := (by injection e271)
       replace hx271_0 := (HB.out.cell (World.block_lt_of_cell? w _ hx271_0)).trans hx271_0
       replace p271 := eq_true p271
       replace q271 := eq_true q271
       go_wp2
       repeat (go_quiet (fail); try go_wp2)
       go_ret
       exact ⟨_, pE, pN, qB1 HB GE267⟩
      rw [if_neg c24] at H
      have c24b0 : decide ((rd l0_2 x42_2) ≤ (wrap64 (-a1))) = false := decide_eq_false c24
      clear c24
      have H' := aM H
      clear H
      obtain ⟨hcz26_0, hcz26_1, hcz26_2, hfz26_0, hfz26_1, hfz26_2⟩ := blk3 BK267.out
      have p269 : 0 ≤ (x42_2 : Int) := of_decide_eq_true pD
      have q269 : x42_2 < (l0_1.length : Int) := of_decide_eq_true pD
      obtain ⟨ad269, e269, hx269_0⟩ := Kd.at_int HR0_1.out x42_2 p269 q269
      cases e269
      replace hx269_0 := (HB.out.cell (World.block_lt_of_cell? w _ hx269_0)).trans hx269_0
      replace p269 := eq_true p269
      replace q269 := eq_true q269
      have p270 : 0 ≤ (x42_2 : Int) := of_decide_eq_true pD
      have q270 : x42_2 < (l0_2.length : Int) := of_decide_eq_true pD
      obtain ⟨ad270, e270, hx270_0⟩ := Kd.at_int HR0_2.out x42_2 p270 q270
      cases e270
      replace hx270_0 := (HB.out.cell (World.block_lt_of_cell? w _ hx270_0)).trans hx270_0
      replace p270 := eq_true p270
      replace q270 := eq_true q270
      have p271 : 0 ≤ (x42_2 : Int) := of_decide_eq_true pD
      have q271 : x42_2 < (l0_2.length : Int) := of_decide_eq_true pD
      obtain ⟨ad271, e271, hx271_0⟩ := Kd.at_int HR0_2.out x42_2 p271 q271
      obtain rfl : ad270 = ad271 := (by injection e271)
      replace hx271_0 := (HB.out.cell (World.block_lt_of_cell? w _ hx271_0)).trans hx271_0
      replace p271 := eq_true p271
      replace q271 := eq_true q271
      go_wp2
      repeat (go_quiet (fail); try go_wp2)
      go_roundg k2
      case measure => have := HJ2.out; have := HK2.out; omega
      case rel => exact ⟨(wrap64 (x42_2 + 1)), (pF), H', ⟨by have := HJ2.out; have := HK2.out; omega⟩, ⟨by (with_reducible repeat (first | apply bN | apply bD | apply bA)); exact BK267.out⟩, ⟨qB1 HB GE267⟩⟩
     rw [if_neg c17] at H
     have c17b0 : decide (x42_2 < (l0_1.length : Int)) = false := decide_eq_false c17
     clear c17
     replace H := Option.bind_eq_some_iff.mp H
     obtain ⟨t272, A280, H⟩ := H
     try dsimp only at H
     have A28 := aM A280
     clear A280
     have H' := aM H
     clear H
     obtain ⟨hcz29_0, hcz29_1, hcz29_2, hfz29_0, hfz29_1, hfz29_2⟩ := blk3 BK267.out
     go_wp2_with (first | (go_at_call 38; (with_reducible refine (gradineref20_All.calls k2 _ _ l0_1 t272 _ ?s1 ?s2 A28.out).mono ?_); (case s1 => exact sC HR0_1 HB); (case s2 => exact HC0_1.out); rintro e w30 ⟨v273, rfl, ho0, hb⟩; have HO274 := aM (Kd.N_lower (Kd.N_mono (ok' := fun k_ => k_ ≠ gb267) ho0 (fun k_ hk_ => (Kd.freshB (g := gb267) (pK BK267.out) k_ hk_))) (below_size (qB1 HB GE267))); replace BK267 := bK BK267 hb; replace HB := bS (qB1 HB GE267) hb; (try clear hb); (try clear hk); (try clear hi); (try clear ho0); obtain ⟨Ao31, co31, eo31⟩ := Kd.N_slice HO274.out; subst eo31))
     repeat (go_quiet (first | (go_at_call 38; (with_reducible refine (gradineref20_All.calls k2 _ _ l0_1 t272 _ ?s1 ?s2 A28.out).mono ?_); (case s1 => exact sC HR0_1 HB); (case s2 => exact HC0_1.out); rintro e w30 ⟨v273, rfl, ho0, hb⟩; have HO274 := aM (Kd.N_lower (Kd.N_mono (ok' := fun k_ => k_ ≠ gb267) ho0 (fun k_ hk_ => (Kd.freshB (g := gb267) (pK BK267.out) k_ hk_))) (below_size (qB1 HB GE267))); replace BK267 := bK BK267 hb; replace HB := bS (qB1 HB GE267) hb; (try clear hb); (try clear hk); (try clear hi); (try clear ho0); obtain ⟨Ao31, co31, eo31⟩ := Kd.N_slice HO274.out; subst eo31)); try go_wp2_with (first | (go_at_call 38; (with_reducible refine (gradineref20_All.calls k2 _ _ l0_1 t272 _ ?s1 ?s2 A28.out).mono ?_); (case s1 => exact sC HR0_1 HB); (case s2 => exact HC0_1.out); rintro e w30 ⟨v273, rfl, ho0, hb⟩; have HO274 := aM (Kd.N_lower (Kd.N_mono (ok' := fun k_ => k_ ≠ gb267) ho0 (fun k_ hk_ => (Kd.freshB (g := gb267) (pK BK267.out) k_ hk_))) (below_size (qB1 HB GE267))); replace BK267 := bK BK267 hb; replace HB := bS (qB1 HB GE267) hb; (try clear hb); (try clear hk); (try clear hi); (try clear ho0); obtain ⟨Ao31, co31, eo31⟩ := Kd.N_slice HO274.out; subst eo31)))
     go_loopg [7, 76] k2 (fun kq v7 v76 w' => ∃ (x7_3 : List Int) (x76_3 : Int), v76 = .int .i64 x76_3 ∧ Aside0 (gradineref22_Cells.l1 kq a1 t272 x7_3 (t272.length : Int) x76_3 a0_0 l0_1 l0_2 = some r) ∧ Aside0 (kq ≤ k2) ∧ Aside0 (Kd.N (Kd.slice 3 (Kd.int .i64)) 22 w' w.heap.size (fun k_ => some k_ ≠ (v7 : Value).ownBlock ∧ k_ ≠ gb267) (.slice Ao31 t272.length co31) t272) ∧ Aside0 (Kd.R (Kd.int .i64) 3 w' w.heap.size (fun _ => True) v7 x7_3) ∧ Aside0 (w'.heap[gb267]? = some (.cells #[.int .i64 a0_0, (.slice A0_1 l0_1.length c0_1), (.slice A0_2 l0_2.length c0_2)] 24 (0, 0))) ∧ Aside0 (Below w.heap.size w w'))
     case atStart => exact ⟨(([] : List Int)), (0), (pF), H', ⟨Nat.le_refl _⟩, ⟨by (with_reducible repeat (first | apply Kd.N_alloc | apply Kd.N_drewN | apply Kd.N_drew)); exact Kd.N_mono HO274.out (fun _ hk => ⟨(by simp [Value.ownBlock]), hk⟩)⟩, ⟨pN⟩, ⟨by (with_reducible repeat (first | apply bN | apply bD | apply bA)); exact BK267.out⟩, ⟨qB1 HB GE267⟩⟩
     case round =>
      clear H'
      try clear c17b0
      try clear hcz29_0 hcz29_1 hcz29_2 hfz29_0 hfz29_1 hfz29_2
      obtain ⟨x7_3, x76_3, rfl, HA, HK3, HO_6, HO_7, BK267, HB⟩ := hrel
      cases gk with
      | zero => exact absurd HA.out (by simp [gradineref22_Cells.l1])
      | succ k3 =>
       have H := HA.out
       clear HA
       simp only [gradineref22_Cells.l1] at H
       by_cases c32 : x76_3 < (t272.length : Int)
       rotate_left
       ·rw [if_neg c32] at H
        have c32b0 : decide (x76_3 < (t272.length : Int)) = false := decide_eq_false c32
        clear c32
        obtain rfl := Option.some.inj H
        go_wp2
        repeat (go_quiet (fail); try go_wp2)
        go_ret
        exact ⟨_, pE, pR HO_7.out, qB1 HB GE267⟩
       rw [if_pos c32] at H
       have c32b0 : decide (x76_3 < (t272.length : Int)) = true := decide_eq_true c32
       clear c32
       by_cases c33 : 0 ≤ x76_3
       rotate_left
       ·rw [if_neg c33] at H
        exact absurd H (by simp)
       rw [if_pos c33] at H
       have c33b0 : decide (0 ≤ x76_3) = true := decide_eq_true c33
       clear c33
       by_cases c34 : x76_3 < (t272.length : Int)
       rotate_left
       ·rw [if_neg c34] at H
        exact absurd H (by simp)
       rw [if_pos c34] at H
       have c34b0 : decide (x76_3 < (t272.length : Int)) = true := decide_eq_true c34
       clear c34
       have H' := aM H
       clear H
       obtain ⟨hcz35_0, hcz35_1, hcz35_2, hfz35_0, hfz35_1, hfz35_2⟩ := blk3 BK267.out
       have p275 : 0 ≤ (x76_3 : Int) := of_decide_eq_true pD
       have q275 : x76_3 < (t272.length : Int) := of_decide_eq_true pD
       obtain ⟨ad275, A275_0, c275_0, e275, hx275_0, hl275_0, hi275_0⟩ := at_L1 (Kd.N_reads' HO_6.out).2.2 x76_3 p275 q275
       cases e275
       obtain ⟨ce275, hce275, hMe275, hcc275⟩ := Kd.N_get HO_6.out [] x76_3 p275 (by first | exact q275 | exact of_decide_eq_true pD | (have e_ := (Kd.N_reads' HO_6.out).1; omega))
       obtain ⟨ua275_0, uc275_0, rfl, ul275_0, ge275_0⟩ := Kd.FK_slice_open hMe275
       have hv275_0 := hcc275 0 _ rfl
       rw [Nat.add_zero, show ((Kd.slice 3 (Kd.int .i64))).sz = 1 from rfl, Nat.mul_one] at hv275_0
       replace hv275_0 := Option.some.inj (hv275_0.symm.trans hx275_0)
       injection hv275_0 with hva_ hvn_ hvc_
       rw [hva_] at ge275_0
       rw [hvc_] at ul275_0
       have HL275_0 := aM (show Kd.V (Kd.int .i64) 3 _ w.heap.size _ _ (rd_L1 t272 x76_3) from Kd.V_mk ul275_0 ge275_0)
       clear hva_ hvn_ hvc_ ge275_0 ul275_0
       clear hcc275 hce275
       have HR275_0 := aM hi275_0
       have HC275_0 := aM hl275_0
       clear hi275_0 hl275_0
       replace p275 := eq_true p275
       replace q275 := eq_true q275
       go_wp2
       repeat (go_quiet (fail); try go_wp2)
       go_loopg [9, 86] k3 (fun kq v9 v86 w' => ∃ (x9_4 : Int) (x86_4 : Int), v9 = .int .i64 x9_4 ∧ v86 = .int .i64 x86_4 ∧ Aside0 (gradineref22_Cells.l2 kq a1 t272 x7_3 x76_3 x9_4 (t272.length : Int) x76_3 ((rd_L1 t272 x76_3).length : Int) x86_4 a0_0 l0_1 l0_2 = some r) ∧ Aside0 (kq ≤ k3) ∧ Aside0 (Kd.N (Kd.slice 3 (Kd.int .i64)) 22 w' w.heap.size (fun k_ => some k_ ≠ (u7 : Value).ownBlock ∧ k_ ≠ gb267) (.slice (some ad275) t272.length co31) t272) ∧ Aside0 (Kd.R (Kd.int .i64) 3 w' w.heap.size (fun _ => True) u7 x7_3) ∧ Aside0 (w'.heap[gb267]? = some (.cells #[.int .i64 a0_0, (.slice A0_1 l0_1.length c0_1), (.slice A0_2 l0_2.length c0_2)] 24 (0, 0))) ∧ Aside0 (Kd.C (Kd.int .i64) w' A275_0 (rd_L1 t272 x76_3).length (rd_L1 t272 x76_3)) ∧ Aside0 (Below w.heap.size w w'))
       case atStart => exact ⟨(a0_0), (0), (pF), (pF), H', ⟨Nat.le_refl _⟩, ⟨by (with_reducible repeat (first | apply Kd.N_alloc | apply Kd.N_drewN | apply Kd.N_drew)); exact HO_6.out⟩, ⟨pR HO_7.out⟩, ⟨by (with_reducible repeat (first | apply bN | apply bD | apply bA)); exact BK267.out⟩, ⟨by repeat (first | (with_reducible exact HR275_0.out) | (with_reducible refine Kd.C_alloc ?_ _) | (with_reducible refine Kd.C_drewN ?_ _) | (with_reducible refine Kd.C_drew ?_) | exact HR275_0.out)⟩, ⟨qB1 HB GE267⟩⟩
       case round =>
        clear H'
        try clear c32b0
        try clear c33b0
        try clear c34b0
        try clear hcz35_0 hcz35_1 hcz35_2 hfz35_0 hfz35_1 hfz35_2
        try clear hx275_0
        try clear p275
        try clear q275
        obtain ⟨x9_4, x86_4, rfl, rfl, HA, HK4, HO_6, HO_7, BK267, HR275_0, HB⟩ := hrel
        cases gk with
        | zero => exact absurd HA.out (by simp [gradineref22_Cells.l2])
        | succ k4 =>
         have H := HA.out
         clear HA
         simp only [gradineref22_Cells.l2] at H
         by_cases c36 : x86_4 < ((rd_L1 t272 x76_3).length : Int)
         rotate_left
         ·rw [if_neg c36] at H
          have c36b0 : decide (x86_4 < ((rd_L1 t272 x76_3).length : Int)) = false := decide_eq_false c36
          clear c36
          by_cases c44 : x9_4 < 0
          ·rw [if_pos c44] at H
           have c44b0 : decide (x9_4 < 0) = true := decide_eq_true c44
           clear c44
           obtain rfl := Option.some.inj H
           go_wp2
           repeat (go_quiet (fail); try go_wp2)
           go_ret
           exact ⟨_, pE, pN, qB1 HB GE267⟩
          rw [if_neg c44] at H
          have c44b0 : decide (x9_4 < 0) = false := decide_eq_false c44
          clear c44
          by_cases c45 : x9_4 ≥ a1
          ·rw [if_pos c45] at H
           have c45b0 : decide (a1 ≤ x9_4) = true := decide_eq_true c45
           clear c45
           obtain rfl := Option.some.inj H
           go_wp2
           repeat (go_quiet (fail); try go_wp2)
           go_ret
           exact ⟨_, pE, pN, qB1 HB GE267⟩
          rw [if_neg c45] at H
          have c45b0 : decide (a1 ≤ x9_4) = false := decide_eq_false c45
          clear c45
          by_cases c46 : x7_3.length < 17592186044416
          rotate_left
          ·rw [if_neg c46] at H
           exact absurd H (by simp)
          rw [if_pos c46] at H
          have LMc46 := aM c46
          clear c46
          obtain ⟨y281, hy281⟩ : ∃ y_ : List Int, y_ = (x7_3 ++ [x9_4]) := ⟨_, rfl⟩
          replace H : (gradineref22_Cells.l1 k4 a1 t272 y281 (t272.length : Int) (wrap64 (x76_3 + 1)) a0_0 l0_1 l0_2) = some r := pH hy281 H
          have Ny281 := aM hy281
          clear hy281
          have H' := aM H
          clear H
          go_wp2_with (first | ((with_reducible refine gate_builtin (b := .append) (xs := #[.tmp 120, .tmp 122]) rfl ?_); (try (refine gate_guard (by rfl) ?_; dsimp only)); at_builtin; refine Kd.R_append (Kd.int .i64) (w0 := w) w.heap.size rfl (.tmp 120) (.tmp 122) 22 3 (.int .i64 0) 8 rfl Try.underlying22 info3 rfl (by decide) (by omega) u7 x7_3 x9_4 [.int .i64 x9_4] (fun _ => True) (fun _ => False) rfl rfl ?aP (fun _ hk => hk.elim) ?aF ?aO ?aB ?aS ?aL ?_; (case aP => exact rfl); (case aB => exact (qB1 HB GE267)); (case aF => exact (fun _ _ => trivial)); (case aO => exact (pR HO_7.out)); (case aS => exact (below_size (qB1 HB GE267))); (case aL => have := LMc46.out; omega); intro v282 w47 ho hb hg hat; rw [← Ny281.out] at ho; replace HO_6 := aM (Kd.N_afterv (ok := (fun k_ => k_ ≠ gb267)) (by (with_reducible repeat (first | apply Kd.N_alloc | apply Kd.N_drewN | apply Kd.N_drew)); exact Kd.N_mono HO_6.out (fun _ hk => ⟨hk.2, hk.1⟩)) hg hat); replace BK267 := aM (blk_grown (g := gb267) (pK BK267.out) hg (Kd.R_ne HO_7.out BK267.out (by decide))); replace HB := aM (hb); have HO283 := aM (ho); clear HO_7; clear ho hb hg hat))
          repeat (go_quiet (first | ((with_reducible refine gate_builtin (b := .append) (xs := #[.tmp 120, .tmp 122]) rfl ?_); (try (refine gate_guard (by rfl) ?_; dsimp only)); at_builtin; refine Kd.R_append (Kd.int .i64) (w0 := w) w.heap.size rfl (.tmp 120) (.tmp 122) 22 3 (.int .i64 0) 8 rfl Try.underlying22 info3 rfl (by decide) (by omega) u7 x7_3 x9_4 [.int .i64 x9_4] (fun _ => True) (fun _ => False) rfl rfl ?aP (fun _ hk => hk.elim) ?aF ?aO ?aB ?aS ?aL ?_; (case aP => exact rfl); (case aB => exact (qB1 HB GE267)); (case aF => exact (fun _ _ => trivial)); (case aO => exact (pR HO_7.out)); (case aS => exact (below_size (qB1 HB GE267))); (case aL => have := LMc46.out; omega); intro v282 w47 ho hb hg hat; rw [← Ny281.out] at ho; replace HO_6 := aM (Kd.N_afterv (ok := (fun k_ => k_ ≠ gb267)) (by (with_reducible repeat (first | apply Kd.N_alloc | apply Kd.N_drewN | apply Kd.N_drew)); exact Kd.N_mono HO_6.out (fun _ hk => ⟨hk.2, hk.1⟩)) hg hat); replace BK267 := aM (blk_grown (g := gb267) (pK BK267.out) hg (Kd.R_ne HO_7.out BK267.out (by decide))); replace HB := aM (hb); have HO283 := aM (ho); clear HO_7; clear ho hb hg hat)); try go_wp2_with (first | ((with_reducible refine gate_builtin (b := .append) (xs := #[.tmp 120, .tmp 122]) rfl ?_); (try (refine gate_guard (by rfl) ?_; dsimp only)); at_builtin; refine Kd.R_append (Kd.int .i64) (w0 := w) w.heap.size rfl (.tmp 120) (.tmp 122) 22 3 (.int .i64 0) 8 rfl Try.underlying22 info3 rfl (by decide) (by omega) u7 x7_3 x9_4 [.int .i64 x9_4] (fun _ => True) (fun _ => False) rfl rfl ?aP (fun _ hk => hk.elim) ?aF ?aO ?aB ?aS ?aL ?_; (case aP => exact rfl); (case aB => exact (qB1 HB GE267)); (case aF => exact (fun _ _ => trivial)); (case aO => exact (pR HO_7.out)); (case aS => exact (below_size (qB1 HB GE267))); (case aL => have := LMc46.out; omega); intro v282 w47 ho hb hg hat; rw [← Ny281.out] at ho; replace HO_6 := aM (Kd.N_afterv (ok := (fun k_ => k_ ≠ gb267)) (by (with_reducible repeat (first | apply Kd.N_alloc | apply Kd.N_drewN | apply Kd.N_drew)); exact Kd.N_mono HO_6.out (fun _ hk => ⟨hk.2, hk.1⟩)) hg hat); replace BK267 := aM (blk_grown (g := gb267) (pK BK267.out) hg (Kd.R_ne HO_7.out BK267.out (by decide))); replace HB := aM (hb); have HO283 := aM (ho); clear HO_7; clear ho hb hg hat)))
          go_roundg k4
          case measure => have := HJ2.out; have := HK2.out; have := HK3.out; have := HK4.out; omega
          case rel => exact ⟨(y281), (wrap64 (x76_3 + 1)), (pF), H', ⟨by have := HJ2.out; have := HK2.out; have := HK3.out; have := HK4.out; omega⟩, ⟨by (with_reducible repeat (first | apply Kd.N_alloc | apply Kd.N_drewN | apply Kd.N_drew)); exact Kd.N_mono HO_6.out (fun _ hk => ⟨hk.2, hk.1⟩)⟩, ⟨pR HO283.out⟩, ⟨by (with_reducible repeat (first | apply bN | apply bD | apply bA)); exact BK267.out⟩, ⟨qB1 HB GE267⟩⟩
         rw [if_pos c36] at H
         have c36b0 : decide (x86_4 < ((rd_L1 t272 x76_3).length : Int)) = true := decide_eq_true c36
         clear c36
         by_cases c37 : 0 ≤ x76_3
         rotate_left
         ·rw [if_neg c37] at H
          exact absurd H (by simp)
         rw [if_pos c37] at H
         have c37b0 : decide (0 ≤ x76_3) = true := decide_eq_true c37
         clear c37
         by_cases c38 : x76_3 < (t272.length : Int)
         rotate_left
         ·rw [if_neg c38] at H
          exact absurd H (by simp)
         rw [if_pos c38] at H
         have c38b0 : decide (x76_3 < (t272.length : Int)) = true := decide_eq_true c38
         clear c38
         by_cases c39 : 0 ≤ x86_4
         rotate_left
         ·rw [if_neg c39] at H
          exact absurd H (by simp)
         rw [if_pos c39] at H
         have c39b0 : decide (0 ≤ x86_4) = true := decide_eq_true c39
         clear c39
         by_cases c40 : x86_4 < ((rd_L1 t272 x76_3).length : Int)
         rotate_left
         ·rw [if_neg c40] at H
          exact absurd H (by simp)
         rw [if_pos c40] at H
         have c40b0 : decide (x86_4 < ((rd_L1 t272 x76_3).length : Int)) = true := decide_eq_true c40
         clear c40
         by_cases c41 : (rd (rd_L1 t272 x76_3) x86_4) > 0
         rotate_left
         ·rw [if_neg c41] at H
          have c41b0 : decide (0 < (rd (rd_L1 t272 x76_3) x86_4)) = false := decide_eq_false c41
          clear c41
          have H' := aM H
          clear H
          have p276 : 0 ≤ (x76_3 : Int) := of_decide_eq_true pD
          have q276 : x76_3 < (t272.length : Int) := of_decide_eq_true pD
          obtain ⟨ad276, A276_0, c276_0, e276, hx276_0, hl276_0, hi276_0⟩ := at_L1 (Kd.N_reads' HO_6.out).2.2 x76_3 p276 q276
          obtain rfl : ad275 = ad276 := (by injection e276)
          obtain ⟨ce276, hce276, hMe276, hcc276⟩ := Kd.N_get HO_6.out [] x76_3 p276 (by first | exact q276 | exact of_decide_eq_true pD | (have e_ := (Kd.N_reads' HO_6.out).1; omega))
          obtain ⟨ua276_0, uc276_0, rfl, ul276_0, ge276_0⟩ := Kd.FK_slice_open hMe276
          have hv276_0 := hcc276 0 _ rfl
          rw [Nat.add_zero, show ((Kd.slice 3 (Kd.int .i64))).sz = 1 from rfl, Nat.mul_one] at hv276_0
          replace hv276_0 := Option.some.inj (hv276_0.symm.trans hx276_0)
          injection hv276_0 with hva_ hvn_ hvc_
          rw [hva_] at ge276_0
          rw [hvc_] at ul276_0
          have HL276_0 := aM (show Kd.V (Kd.int .i64) 3 _ w.heap.size _ _ (rd_L1 t272 x76_3) from Kd.V_mk ul276_0 ge276_0)
          clear hva_ hvn_ hvc_ ge276_0 ul276_0
          clear hcc276 hce276
          have HR276_0 := aM hi276_0
          have HC276_0 := aM hl276_0
          clear hi276_0 hl276_0
          replace p276 := eq_true p276
          replace q276 := eq_true q276
          have p277 : 0 ≤ (x86_4 : Int) := of_decide_eq_true pD
          have q277 : x86_4 < ((rd_L1 t272 x76_3).length : Int) := of_decide_eq_true pD
          obtain ⟨ad277, e277, hx277_0⟩ := Kd.at_int (by repeat (first | (with_reducible exact HR276_0.out) | (with_reducible refine Kd.C_alloc ?_ _) | (with_reducible refine Kd.C_drewN ?_ _) | (with_reducible refine Kd.C_drew ?_) | exact HR276_0.out)) x86_4 p277 q277
          cases e277
          replace p277 := eq_true p277
          replace q277 := eq_true q277
          go_wp2
          repeat (go_quiet (fail); try go_wp2)
          go_roundg k4
          case measure => have := HJ2.out; have := HK2.out; have := HK3.out; have := HK4.out; omega
          case rel => exact ⟨(x9_4), (wrap64 (x86_4 + 1)), (pF), (pF), H', ⟨by have := HJ2.out; have := HK2.out; have := HK3.out; have := HK4.out; omega⟩, ⟨by (with_reducible repeat (first | apply Kd.N_alloc | apply Kd.N_drewN | apply Kd.N_drew)); exact HO_6.out⟩, ⟨pR HO_7.out⟩, ⟨by (with_reducible repeat (first | apply bN | apply bD | apply bA)); exact BK267.out⟩, ⟨by repeat (first | (with_reducible exact HR275_0.out) | (with_reducible refine Kd.C_alloc ?_ _) | (with_reducible refine Kd.C_drewN ?_ _) | (with_reducible refine Kd.C_drew ?_) | exact HR275_0.out)⟩, ⟨qB1 HB GE267⟩⟩
         rw [if_pos c41] at H
         have c41b0 : decide (0 < (rd (rd_L1 t272 x76_3) x86_4)) = true := decide_eq_true c41
         clear c41
         by_cases c42 : x86_4 < (l0_2.length : Int)
         rotate_left
         ·rw [if_neg c42] at H
          exact absurd H (by simp)
         rw [if_pos c42] at H
         have c42b0 : decide (x86_4 < (l0_2.length : Int)) = true := decide_eq_true c42
         clear c42
         have H' := aM H
         clear H
         have p276 : 0 ≤ (x76_3 : Int) := of_decide_eq_true pD
         have q276 : x76_3 < (t272.length : Int) := of_decide_eq_true pD
         obtain ⟨ad276, A276_0, c276_0, e276, hx276_0, hl276_0, hi276_0⟩ := at_L1 (Kd.N_reads' HO_6.out).2.2 x76_3 p276 q276
         obtain rfl : ad275 = ad276 := (by injection e276)
         obtain ⟨ce276, hce276, hMe276, hcc276⟩ := Kd.N_get HO_6.out [] x76_3 p276 (by first | exact q276 | exact of_decide_eq_true pD | (have e_ := (Kd.N_reads' HO_6.out).1; omega))
         obtain ⟨ua276_0, uc276_0, rfl, ul276_0, ge276_0⟩ := Kd.FK_slice_open hMe276
         have hv276_0 := hcc276 0 _ rfl
         rw [Nat.add_zero, show ((Kd.slice 3 (Kd.int .i64))).sz = 1 from rfl, Nat.mul_one] at hv276_0
         replace hv276_0 := Option.some.inj (hv276_0.symm.trans hx276_0)
         injection hv276_0 with hva_ hvn_ hvc_
         rw [hva_] at ge276_0
         rw [hvc_] at ul276_0
         have HL276_0 := aM (show Kd.V (Kd.int .i64) 3 _ w.heap.size _ _ (rd_L1 t272 x76_3) from Kd.V_mk ul276_0 ge276_0)
         clear hva_ hvn_ hvc_ ge276_0 ul276_0
         clear hcc276 hce276
         have HR276_0 := aM hi276_0
         have HC276_0 := aM hl276_0
         clear hi276_0 hl276_0
         replace p276 := eq_true p276
         replace q276 := eq_true q276
         have p277 : 0 ≤ (x86_4 : Int) := of_decide_eq_true pD
         have q277 : x86_4 < ((rd_L1 t272 x76_3).length : Int) := of_decide_eq_true pD
         obtain ⟨ad277, e277, hx277_0⟩ := Kd.at_int (by repeat (first | (with_reducible exact HR276_0.out) | (with_reducible refine Kd.C_alloc ?_ _) | (with_reducible refine Kd.C_drewN ?_ _) | (with_reducible refine Kd.C_drew ?_) | exact HR276_0.out)) x86_4 p277 q277
         cases e277
         replace p277 := eq_true p277
         replace q277 := eq_true q277
         have p278 : 0 ≤ (x76_3 : Int) := of_decide_eq_true pD
         have q278 : x76_3 < (t272.length : Int) := of_decide_eq_true pD
         obtain ⟨ad278, A278_0, c278_0, e278, hx278_0, hl278_0, hi278_0⟩ := at_L1 (Kd.N_reads' HO_6.out).2.2 x76_3 p278 q278
         obtain rfl : ad275 = ad278 := (by injection e278)
         obtain ⟨ce278, hce278, hMe278, hcc278⟩ := Kd.N_get HO_6.out [] x76_3 p278 (by first | exact q278 | exact of_decide_eq_true pD | (have e_ := (Kd.N_reads' HO_6.out).1; omega))
         obtain ⟨ua278_0, uc278_0, rfl, ul278_0, ge278_0⟩ := Kd.FK_slice_open hMe278
         have hv278_0 := hcc278 0 _ rfl
         rw [Nat.add_zero, show ((Kd.slice 3 (Kd.int .i64))).sz = 1 from rfl, Nat.mul_one] at hv278_0
         replace hv278_0 := Option.some.inj (hv278_0.symm.trans hx278_0)
         injection hv278_0 with hva_ hvn_ hvc_
         rw [hva_] at ge278_0
         rw [hvc_] at ul278_0
         have HL278_0 := aM (show Kd.V (Kd.int .i64) 3 _ w.heap.size _ _ (rd_L1 t272 x76_3) from Kd.V_mk ul278_0 ge278_0)
         clear hva_ hvn_ hvc_ ge278_0 ul278_0
         clear hcc278 hce278
         have HR278_0 := aM hi278_0
         have HC278_0 := aM hl278_0
         clear hi278_0 hl278_0
         replace p278 := eq_true p278
         replace q278 := eq_true q278
         have ea_ := Option.some.inj (hx276_0.symm.trans hx278_0)
         injection ea_ with ea_ en_ ec_
         subst ea_
         subst ec_
         clear en_
         have p279 : 0 ≤ (x86_4 : Int) := of_decide_eq_true pD
         have q279 : x86_4 < ((rd_L1 t272 x76_3).length : Int) := of_decide_eq_true pD
         obtain ⟨ad279, e279, hx279_0⟩ := Kd.at_int (by repeat (first | (with_reducible exact HR278_0.out) | (with_reducible refine Kd.C_alloc ?_ _) | (with_reducible refine Kd.C_drewN ?_ _) | (with_reducible refine Kd.C_drew ?_) | exact HR278_0.out)) x86_4 p279 q279
         cases e279
         replace p279 := eq_true p279
         replace q279 := eq_true q279
         obtain ⟨hcz43_0, hcz43_1, hcz43_2, hfz43_0, hfz43_1, hfz43_2⟩ := blk3 BK267.out
         have p280 : 0 ≤ (x86_4 : Int) := of_decide_eq_true pD
         have q280 : x86_4 < (l0_2.length : Int) := of_decide_eq_true pD
         obtain ⟨ad280, e280, hx280_0⟩ := Kd.at_int HR0_2.out x86_4 p280 q280
         cases e280
         replace hx280_0 := (HB.out.cell (World.block_lt_of_cell? w _ hx280_0)).trans hx280_0
         replace p280 := eq_true p280
         replace q280 := eq_true q280
         go_wp2
         repeat (go_quiet (fail); try go_wp2)
         go_roundg k4
         case measure => have := HJ2.out; have := HK2.out; have := HK3.out; have := HK4.out; omega
         case rel => exact ⟨(wrap64 (x9_4 + (wrap64 ((rd (rd_L1 t272 x76_3) x86_4) * (rd l0_2 x86_4))))), (wrap64 (x86_4 + 1)), (pF), (pF), H', ⟨by have := HJ2.out; have := HK2.out; have := HK3.out; have := HK4.out; omega⟩, ⟨by (with_reducible repeat (first | apply Kd.N_alloc | apply Kd.N_drewN | apply Kd.N_drew)); exact HO_6.out⟩, ⟨pR HO_7.out⟩, ⟨by (with_reducible repeat (first | apply bN | apply bD | apply bA)); exact BK267.out⟩, ⟨by repeat (first | (with_reducible exact HR275_0.out) | (with_reducible refine Kd.C_alloc ?_ _) | (with_reducible refine Kd.C_drewN ?_ _) | (with_reducible refine Kd.C_drew ?_) | exact HR275_0.out)⟩, ⟨qB1 HB GE267⟩⟩
def gradineref22_Pick.l0 : Nat → List Int → List Int → List Int → Int → Int → Option (List Int)
 | 0, _, _, _, _, _ => none
 | k + 1, x0, x1, x5, x8, x9 => if x9 < x8 then (if 0 ≤ x9 then (if x9 < (x1.length : Int) then (if 0 ≤ (rd x1 x9) then (if (rd x1 x9) < (x0.length : Int) then (if x5.length < 17592186044416 then (gradineref22_Pick.l0 k x0 x1 (x5 ++ [rd x0 (rd x1 x9)]) x8 (wrap64 (x9 + 1))) else (none)) else (none)) else (none)) else (none)) else (none)) else (some x5)
def gradineref22_Pick.f (k : Nat) (l0 : List Int) (l1 : List Int) : Option (List Int) := gradineref22_Pick.l0 k l0 l1 ([] : List Int) (l1.length : Int) 0
set_option maxHeartbeats 8000000 in
set_option maxRecDepth 100000 in
theorem gradineref22_Pick.calls (k : Nat) (A0 : Option Addr) (c0 : Nat) (l0 : List Int) (A1 : Option Addr) (c1 : Nat) (l1 : List Int) (r : List Int) (w : World) (hr0 : Kd.C (Kd.int .i64) w A0 l0.length l0) (hc0 : l0.length ≤ c0) (hr1 : Kd.C (Kd.int .i64) w A1 l1.length l1) (hc1 : l1.length ≤ c1) (h : gradineref22_Pick.f k l0 l1 = some r) :
  Calls Try.prog 25 #[.slice A0 l0.length c0, .slice A1 l1.length c1] w fun e w' => ∃ v0_ : Value, e = .returned (v0_) ∧ Kd.R (Kd.int .i64) 3 w' w.heap.size (fun _ => True) v0_ r ∧ Below w.heap.size w w' := by
 have HR0 := aM hr0
 have HC0 := aM hc0
 clear hr0 hc0
 have HR1 := aM hr1
 have HC1 := aM hc1
 clear hr1 hc1
 have HB := aM (Below.refl w.heap.size w)
 have H : (gradineref22_Pick.l0 k l0 l1 ([] : List Int) (l1.length : Int) 0) = some r := h
 clear h
 have H' := aM H
 clear H
 go_enter Try.func25, Try.ntmps25
 go_wp2
 go_loopg [5, 9] k (fun kq v5 v9 w' => ∃ (x5_1 : List Int) (x9_1 : Int), v9 = .int .i64 x9_1 ∧ Aside0 (gradineref22_Pick.l0 kq l0 l1 x5_1 (l1.length : Int) x9_1 = some r) ∧ Aside0 (kq ≤ k) ∧ Aside0 (Kd.R (Kd.int .i64) 3 w' w.heap.size (fun _ => True) v5 x5_1) ∧ Aside0 (Below w.heap.size w w'))
 case atStart => exact ⟨(([] : List Int)), (0), (pF), H', ⟨Nat.le_refl _⟩, ⟨pN⟩, ⟨qB HB⟩⟩
 case round =>
  clear H'
  try clear c1
  obtain ⟨x5_1, x9_1, rfl, HA, HK1, HO_5, HB⟩ := hrel
  cases gk with
  | zero => exact absurd HA.out (by simp [gradineref22_Pick.l0])
  | succ k1 =>
   have H := HA.out
   clear HA
   simp only [gradineref22_Pick.l0] at H
   by_cases c3 : x9_1 < (l1.length : Int)
   rotate_left
   ·rw [if_neg c3] at H
    have c3b0 : decide (x9_1 < (l1.length : Int)) = false := decide_eq_false c3
    clear c3
    obtain rfl := Option.some.inj H
    go_wp2
    go_ret
    exact ⟨_, pE, pR HO_5.out, qB HB⟩
   rw [if_pos c3] at H
   have c3b0 : decide (x9_1 < (l1.length : Int)) = true := decide_eq_true c3
   clear c3
   by_cases c4 : 0 ≤ x9_1
   rotate_left
   ·rw [if_neg c4] at H
    exact absurd H (by simp)
   rw [if_pos c4] at H
   have c4b0 : decide (0 ≤ x9_1) = true := decide_eq_true c4
   clear c4
   by_cases c5 : x9_1 < (l1.length : Int)
   rotate_left
   ·rw [if_neg c5] at H
    exact absurd H (by simp)
   rw [if_pos c5] at H
   have c5b0 : decide (x9_1 < (l1.length : Int)) = true := decide_eq_true c5
   clear c5
   by_cases c6 : 0 ≤ (rd l1 x9_1)
   rotate_left
   ·rw [if_neg c6] at H
    exact absurd H (by simp)
   rw [if_pos c6] at H
   have c6b0 : decide (0 ≤ (rd l1 x9_1)) = true := decide_eq_true c6
   clear c6
   by_cases c7 : (rd l1 x9_1) < (l0.length : Int)
   rotate_left
   ·rw [if_neg c7] at H
    exact absurd H (by simp)
   rw [if_pos c7] at H
   have c7b0 : decide ((rd l1 x9_1) < (l0.length : Int)) = true := decide_eq_true c7
   clear c7
   by_cases c8 : x5_1.length < 17592186044416
   rotate_left
   ·rw [if_neg c8] at H
    exact absurd H (by simp)
   rw [if_pos c8] at H
   have LMc8 := aM c8
   clear c8
   obtain ⟨y733, hy733⟩ : ∃ y_ : List Int, y_ = (x5_1 ++ [rd l0 (rd l1 x9_1)]) := ⟨_, rfl⟩
   replace H : (gradineref22_Pick.l0 k1 l0 l1 y733 (l1.length : Int) (wrap64 (x9_1 + 1))) = some r := pH hy733 H
   have Ny733 := aM hy733
   clear hy733
   have H' := aM H
   clear H
   have p731 : 0 ≤ (x9_1 : Int) := of_decide_eq_true pD
   have q731 : x9_1 < (l1.length : Int) := of_decide_eq_true pD
   obtain ⟨ad731, e731, hx731_0⟩ := Kd.at_int HR1.out x9_1 p731 q731
   cases e731
   replace hx731_0 := (HB.out.cell (World.block_lt_of_cell? w _ hx731_0)).trans hx731_0
   replace p731 := eq_true p731
   replace q731 := eq_true q731
   have p732 : 0 ≤ ((rd l1 x9_1) : Int) := of_decide_eq_true pD
   have q732 : (rd l1 x9_1) < (l0.length : Int) := of_decide_eq_true pD
   obtain ⟨ad732, e732, hx732_0⟩ := Kd.at_int HR0.out (rd l1 x9_1) p732 q732
   cases e732
   replace hx732_0 := (HB.out.cell (World.block_lt_of_cell? w _ hx732_0)).trans hx732_0
   replace p732 := eq_true p732
   replace q732 := eq_true q732
   go_wp2_with (first | ((with_reducible refine gate_builtin (b := .append) (xs := #[.tmp 12, .tmp 20]) rfl ?_); at_builtin; refine Kd.R_append (Kd.int .i64) (w0 := w) w.heap.size rfl (.tmp 12) (.tmp 20) 22 3 (.int .i64 0) 8 rfl Try.underlying22 info3 rfl (by decide) (by omega) u5 x5_1 (rd l0 (rd l1 x9_1)) [.int .i64 (rd l0 (rd l1 x9_1))] (fun _ => True) (fun _ => False) rfl rfl ?aP (fun _ hk => hk.elim) ?aF ?aO ?aB ?aS ?aL ?_; (case aP => exact rfl); (case aB => exact (qB HB)); (case aF => exact (fun _ _ => trivial)); (case aO => exact (pR HO_5.out)); (case aS => exact (below_size (qB HB))); (case aL => have := LMc8.out; omega); intro v734 w9 ho hb hg hat; rw [← Ny733.out] at ho; replace HB := aM (hb); have HO735 := aM (ho); clear HO_5; clear ho hb hg hat))
   go_roundg k1
   case measure => have := HK1.out; omega
   case rel => exact ⟨(y733), (wrap64 (x9_1 + 1)), (pF), H', ⟨by have := HK1.out; omega⟩, ⟨pR HO735.out⟩, ⟨qB HB⟩⟩
def gradineref22_Row.l0 : Nat → List Int → Int → Int → Option (Bool)
 | 0, _, _, _ => none
 | k + 1, x0, x5, x6 => if x6 < x5 then (if 0 ≤ x6 then (if x6 < (x0.length : Int) then (if 0 < (x0.length : Int) then (if (rd x0 x6) = (wrap64 ((rd x0 0) + x6)) then (gradineref22_Row.l0 k x0 x5 (wrap64 (x6 + 1))) else (some false)) else (none)) else (none)) else (none)) else (some (decide ((x0.length : Int) > 0)))
def gradineref22_Row.f (k : Nat) (l0 : List Int) : Option (Bool) := gradineref22_Row.l0 k l0 (l0.length : Int) 0
set_option maxHeartbeats 8000000 in
set_option maxRecDepth 100000 in
theorem gradineref22_Row.calls (k : Nat) (A0 : Option Addr) (c0 : Nat) (l0 : List Int) (r : Bool) (w : World) (hr0 : Kd.C (Kd.int .i64) w A0 l0.length l0) (hc0 : l0.length ≤ c0) (h : gradineref22_Row.f k l0 = some r) :
  Calls Try.prog 17 #[.slice A0 l0.length c0] w fun e w' => e = .returned (.bool r) ∧ Drawn0 w w' := by
 have HR0 := aM hr0
 have HC0 := aM hc0
 clear hr0 hc0
 have H : (gradineref22_Row.l0 k l0 (l0.length : Int) 0) = some r := h
 clear h
 have H' := aM H
 clear H
 go_enter Try.func17, Try.ntmps17
 go_wp2
 repeat (go_quiet (fail); try go_wp2)
 go_loopg [6] k (fun kq v6 w' => ∃ (x6_1 : Int), v6 = .int .i64 x6_1 ∧ Aside0 (gradineref22_Row.l0 kq l0 (l0.length : Int) x6_1 = some r) ∧ Aside0 (kq ≤ k) ∧ Drawn0 w w')
 case atStart => exact ⟨(0), (pF), H', ⟨Nat.le_refl _⟩, by repeat (first | exact Drawn0.refl _ | apply Drawn0.step)⟩
 case round =>
  clear H'
  obtain ⟨x6_1, rfl, HA, HK1, ⟨m1, rfl⟩⟩ := hrel
  cases gk with
  | zero => exact absurd HA.out (by simp [gradineref22_Row.l0])
  | succ k1 =>
   have H := HA.out
   clear HA
   simp only [gradineref22_Row.l0] at H
   by_cases c2 : x6_1 < (l0.length : Int)
   rotate_left
   ·rw [if_neg c2] at H
    have c2b0 : decide (x6_1 < (l0.length : Int)) = false := decide_eq_false c2
    clear c2
    obtain rfl := Option.some.inj H
    go_wp2
    repeat (go_quiet (fail); try go_wp2)
    go_ret
    exact ⟨pF, by repeat (first | exact Drawn0.refl _ | apply Drawn0.step)⟩
   rw [if_pos c2] at H
   have c2b0 : decide (x6_1 < (l0.length : Int)) = true := decide_eq_true c2
   clear c2
   by_cases c3 : 0 ≤ x6_1
   rotate_left
   ·rw [if_neg c3] at H
    exact absurd H (by simp)
   rw [if_pos c3] at H
   have c3b0 : decide (0 ≤ x6_1) = true := decide_eq_true c3
   clear c3
   by_cases c4 : x6_1 < (l0.length : Int)
   rotate_left
   ·rw [if_neg c4] at H
    exact absurd H (by simp)
   rw [if_pos c4] at H
   have c4b0 : decide (x6_1 < (l0.length : Int)) = true := decide_eq_true c4
   clear c4
   by_cases c5 : 0 < (l0.length : Int)
   rotate_left
   ·rw [if_neg c5] at H
    exact absurd H (by simp)
   rw [if_pos c5] at H
   have c5b0 : decide (0 < (l0.length : Int)) = true := decide_eq_true c5
   have c5b1 : decide (0 < l0.length) = true := decide_eq_true (by omega)
   clear c5
   by_cases c6 : (rd l0 x6_1) = (wrap64 ((rd l0 0) + x6_1))
   rotate_left
   ·rw [if_neg c6] at H
    have c6b0 : ((rd l0 x6_1) == (wrap64 ((rd l0 0) + x6_1))) = false := beq_eq_false_iff_ne.mpr c6
    have c6b1 : ((rd l0 x6_1) != (wrap64 ((rd l0 0) + x6_1))) = true := bne_iff_ne.mpr c6
    obtain rfl := Option.some.inj H
    have p290 : 0 ≤ (x6_1 : Int) := of_decide_eq_true pD
    have q290 : x6_1 < (l0.length : Int) := of_decide_eq_true pD
    obtain ⟨ad290, e290, hx290_0⟩ := Kd.at_int HR0.out x6_1 p290 q290
    cases e290
    replace p290 := eq_true p290
    replace q290 := eq_true q290
    have p291 : 0 ≤ (0 : Int) := (by omega)
    have q291 : 0 < (l0.length : Int) := of_decide_eq_true pD
    obtain ⟨ad291, e291, hx291_0⟩ := Kd.at_int HR0.out 0 p291 q291
    obtain rfl : ad290 = ad291 := (by injection e291)
    have qi291 : (0 < l0.length) = True := eq_true (by omega)
    (try rw [show ((0 : Int)).toNat = 0 from rfl] at hx291_0)
    (try rw [Addr.add_zero'] at hx291_0)
    replace p291 := eq_true p291
    replace q291 := eq_true q291
    go_wp2
    repeat (go_quiet (fail); try go_wp2)
    go_ret
    exact ⟨pF, by repeat (first | exact Drawn0.refl _ | apply Drawn0.step)⟩
   rw [if_pos c6] at H
   have c6b0 : ((rd l0 x6_1) == (wrap64 ((rd l0 0) + x6_1))) = true := beq_iff_eq.mpr c6
   have c6b1 : ((rd l0 x6_1) != (wrap64 ((rd l0 0) + x6_1))) = false := bne_eq_false_iff_eq.mpr c6
   clear c6
   have H' := aM H
   clear H
   have p290 : 0 ≤ (x6_1 : Int) := of_decide_eq_true pD
   have q290 : x6_1 < (l0.length : Int) := of_decide_eq_true pD
   obtain ⟨ad290, e290, hx290_0⟩ := Kd.at_int HR0.out x6_1 p290 q290
   cases e290
   replace p290 := eq_true p290
   replace q290 := eq_true q290
   have p291 : 0 ≤ (0 : Int) := (by omega)
   have q291 : 0 < (l0.length : Int) := of_decide_eq_true pD
   obtain ⟨ad291, e291, hx291_0⟩ := Kd.at_int HR0.out 0 p291 q291
   obtain rfl : ad290 = ad291 := (by injection e291)
   have qi291 : (0 < l0.length) = True := eq_true (by omega)
   (try rw [show ((0 : Int)).toNat = 0 from rfl] at hx291_0)
   (try rw [Addr.add_zero'] at hx291_0)
   replace p291 := eq_true p291
   replace q291 := eq_true q291
   go_wp2
   repeat (go_quiet (fail); try go_wp2)
   go_roundg k1
   case measure => have := HK1.out; omega
   case rel => exact ⟨(wrap64 (x6_1 + 1)), (pF), H', ⟨by have := HK1.out; omega⟩, by repeat (first | exact Drawn0.refl _ | apply Drawn0.step)⟩
def gradineref19_Same.l0 : Nat → List Int → List Int → Int → Int → Option (Bool)
 | 0, _, _, _, _ => none
 | k + 1, x0, x1, x12, x13 => if x13 < x12 then (if 0 ≤ x13 then (if x13 < (x0.length : Int) then (if x13 < (x1.length : Int) then (if (rd x0 x13) = (rd x1 x13) then (gradineref19_Same.l0 k x0 x1 x12 (wrap64 (x13 + 1))) else (some false)) else (none)) else (none)) else (none)) else (some true)
def gradineref19_Same.f (k : Nat) (l0 : List Int) (l1 : List Int) : Option (Bool) := if (l0.length : Int) = (l1.length : Int) then (gradineref19_Same.l0 k l0 l1 (l0.length : Int) 0) else (some false)
set_option maxHeartbeats 8000000 in
set_option maxRecDepth 100000 in
theorem gradineref19_Same.calls (k : Nat) (A0 : Option Addr) (c0 : Nat) (l0 : List Int) (A1 : Option Addr) (c1 : Nat) (l1 : List Int) (r : Bool) (w : World) (hr0 : Kd.C (Kd.int .i64) w A0 l0.length l0) (hc0 : l0.length ≤ c0) (hr1 : Kd.C (Kd.int .i64) w A1 l1.length l1) (hc1 : l1.length ≤ c1) (h : gradineref19_Same.f k l0 l1 = some r) :
  Calls Try.prog 68 #[.slice A0 l0.length c0, .slice A1 l1.length c1] w fun e w' => e = .returned (.bool r) ∧ Drawn0 w w' := by
 have HR0 := aM hr0
 have HC0 := aM hc0
 clear hr0 hc0
 have HR1 := aM hr1
 have HC1 := aM hc1
 clear hr1 hc1
 have H : (if (l0.length : Int) = (l1.length : Int) then (gradineref19_Same.l0 k l0 l1 (l0.length : Int) 0) else (some false)) = some r := h
 clear h
 by_cases c3 : (l0.length : Int) = (l1.length : Int)
 rotate_left
 ·rw [if_neg c3] at H
  have c3b0 : ((l0.length : Int) == (l1.length : Int)) = false := beq_eq_false_iff_ne.mpr c3
  have c3b1 : ((l0.length : Int) != (l1.length : Int)) = true := bne_iff_ne.mpr c3
  have c3b2 : (l0.length == l1.length) = false := by first | simpa using c3 | (simp at c3 ⊢; omega)
  obtain rfl := Option.some.inj H
  go_enter Try.func68, Try.ntmps68
  go_wp2
  repeat (go_quiet (fail); try go_wp2)
  go_ret
  exact ⟨pF, by repeat (first | exact Drawn0.refl _ | apply Drawn0.step)⟩
 rw [if_pos c3] at H
 have c3b0 : ((l0.length : Int) == (l1.length : Int)) = true := beq_iff_eq.mpr c3
 have c3b1 : ((l0.length : Int) != (l1.length : Int)) = false := bne_eq_false_iff_eq.mpr c3
 have c3b2 : (l0.length == l1.length) = true := by first | simpa using c3 | (simp at c3 ⊢; omega)
 clear c3
 have H' := aM H
 clear H
 go_enter Try.func68, Try.ntmps68
 go_wp2
 repeat (go_quiet (fail); try go_wp2)
 go_loopg [13] k (fun kq v13 w' => ∃ (x13_1 : Int), v13 = .int .i64 x13_1 ∧ Aside0 (gradineref19_Same.l0 kq l0 l1 (l0.length : Int) x13_1 = some r) ∧ Aside0 (kq ≤ k) ∧ Drawn0 w w')
 case atStart => exact ⟨(0), (pF), H', ⟨Nat.le_refl _⟩, by repeat (first | exact Drawn0.refl _ | apply Drawn0.step)⟩
 case round =>
  clear H'
  try clear c1
  try clear c3b0
  try clear c3b1
  try clear c3b2
  obtain ⟨x13_1, rfl, HA, HK1, ⟨m1, rfl⟩⟩ := hrel
  cases gk with
  | zero => exact absurd HA.out (by simp [gradineref19_Same.l0])
  | succ k1 =>
   have H := HA.out
   clear HA
   simp only [gradineref19_Same.l0] at H
   by_cases c4 : x13_1 < (l0.length : Int)
   rotate_left
   ·rw [if_neg c4] at H
    have c4b0 : decide (x13_1 < (l0.length : Int)) = false := decide_eq_false c4
    clear c4
    obtain rfl := Option.some.inj H
    go_wp2
    repeat (go_quiet (fail); try go_wp2)
    go_ret
    exact ⟨pF, by repeat (first | exact Drawn0.refl _ | apply Drawn0.step)⟩
   rw [if_pos c4] at H
   have c4b0 : decide (x13_1 < (l0.length : Int)) = true := decide_eq_true c4
   clear c4
   by_cases c5 : 0 ≤ x13_1
   rotate_left
   ·rw [if_neg c5] at H
    exact absurd H (by simp)
   rw [if_pos c5] at H
   have c5b0 : decide (0 ≤ x13_1) = true := decide_eq_true c5
   clear c5
   by_cases c6 : x13_1 < (l0.length : Int)
   rotate_left
   ·rw [if_neg c6] at H
    exact absurd H (by simp)
   rw [if_pos c6] at H
   have c6b0 : decide (x13_1 < (l0.length : Int)) = true := decide_eq_true c6
   clear c6
   by_cases c7 : x13_1 < (l1.length : Int)
   rotate_left
   ·rw [if_neg c7] at H
    exact absurd H (by simp)
   rw [if_pos c7] at H
   have c7b0 : decide (x13_1 < (l1.length : Int)) = true := decide_eq_true c7
   clear c7
   by_cases c8 : (rd l0 x13_1) = (rd l1 x13_1)
   rotate_left
   ·rw [if_neg c8] at H
    have c8b0 : ((rd l0 x13_1) == (rd l1 x13_1)) = false := beq_eq_false_iff_ne.mpr c8
    have c8b1 : ((rd l0 x13_1) != (rd l1 x13_1)) = true := bne_iff_ne.mpr c8
    obtain rfl := Option.some.inj H
    have p646 : 0 ≤ (x13_1 : Int) := of_decide_eq_true pD
    have q646 : x13_1 < (l0.length : Int) := of_decide_eq_true pD
    obtain ⟨ad646, e646, hx646_0⟩ := Kd.at_int HR0.out x13_1 p646 q646
    cases e646
    replace p646 := eq_true p646
    replace q646 := eq_true q646
    have p647 : 0 ≤ (x13_1 : Int) := of_decide_eq_true pD
    have q647 : x13_1 < (l1.length : Int) := of_decide_eq_true pD
    obtain ⟨ad647, e647, hx647_0⟩ := Kd.at_int HR1.out x13_1 p647 q647
    cases e647
    replace p647 := eq_true p647
    replace q647 := eq_true q647
    go_wp2
    repeat (go_quiet (fail); try go_wp2)
    go_ret
    exact ⟨pF, by repeat (first | exact Drawn0.refl _ | apply Drawn0.step)⟩
   rw [if_pos c8] at H
   have c8b0 : ((rd l0 x13_1) == (rd l1 x13_1)) = true := beq_iff_eq.mpr c8
   have c8b1 : ((rd l0 x13_1) != (rd l1 x13_1)) = false := bne_eq_false_iff_eq.mpr c8
   clear c8
   have H' := aM H
   clear H
   have p646 : 0 ≤ (x13_1 : Int) := of_decide_eq_true pD
   have q646 : x13_1 < (l0.length : Int) := of_decide_eq_true pD
   obtain ⟨ad646, e646, hx646_0⟩ := Kd.at_int HR0.out x13_1 p646 q646
   cases e646
   replace p646 := eq_true p646
   replace q646 := eq_true q646
   have p647 : 0 ≤ (x13_1 : Int) := of_decide_eq_true pD
   have q647 : x13_1 < (l1.length : Int) := of_decide_eq_true pD
   obtain ⟨ad647, e647, hx647_0⟩ := Kd.at_int HR1.out x13_1 p647 q647
   cases e647
   replace p647 := eq_true p647
   replace q647 := eq_true q647
   go_wp2
   repeat (go_quiet (fail); try go_wp2)
   go_roundg k1
   case measure => have := HK1.out; omega
   case rel => exact ⟨(wrap64 (x13_1 + 1)), (pF), H', ⟨by have := HK1.out; omega⟩, by repeat (first | exact Drawn0.refl _ | apply Drawn0.step)⟩
mutual
def gradineref21_Two.l0 : Nat → List Int → List Int → Option (List Int × Int)
 | 0, _, _ => none
 | k + 1, x0, x1 => if (x0.length : Int) < (x1.length : Int) then ((some (([1] : List Int) : List Int)).bind fun y614 => (if y614.length + x0.length < 17592186044416 then (gradineref21_Two.l0 k (y614 ++ x0) x1) else (none))) else (gradineref21_Two.l1 k x0 x1)
def gradineref21_Two.l1 : Nat → List Int → List Int → Option (List Int × Int)
 | 0, _, _ => none
 | k + 1, x0, x1 => if (x1.length : Int) < (x0.length : Int) then ((some (([1] : List Int) : List Int)).bind fun y620 => (if y620.length + x1.length < 17592186044416 then (gradineref21_Two.l1 k x0 (y620 ++ x1)) else (none))) else (gradineref21_Two.l2 k x0 x1 ([] : List Int) (x0.length : Int) 0)
def gradineref21_Two.l2 : Nat → List Int → List Int → List Int → Int → Int → Option (List Int × Int)
 | 0, _, _, _, _, _ => none
 | k + 1, x0, x1, x8, x37, x38 => if x38 < x37 then (if 0 ≤ x38 then (if x38 < (x0.length : Int) then (if x38 < (x1.length : Int) then (if (rd x0 x38) = (rd x1 x38) then (if x8.length < 17592186044416 then (gradineref21_Two.l2 k x0 x1 (x8 ++ [mx (rd x0 x38) (rd x1 x38)]) x37 (wrap64 (x38 + 1))) else (none)) else (if (rd x0 x38) = 1 then (if x8.length < 17592186044416 then (gradineref21_Two.l2 k x0 x1 (x8 ++ [mx (rd x0 x38) (rd x1 x38)]) x37 (wrap64 (x38 + 1))) else (none)) else (if (rd x1 x38) = 1 then (if x8.length < 17592186044416 then (gradineref21_Two.l2 k x0 x1 (x8 ++ [mx (rd x0 x38) (rd x1 x38)]) x37 (wrap64 (x38 + 1))) else (none)) else (some (([] : List Int), 8))))) else (none)) else (none)) else (none)) else ((gradineref19_Check.f k x8).bind fun t645 => (if t645 = 0 then (some (x8, 0)) else (some (([] : List Int), t645))))
end
def gradineref21_Two.f (k : Nat) (l0 : List Int) (l1 : List Int) : Option (List Int × Int) := (gradineref19_Check.f k l0).bind fun t612 => ((gradineref19_Check.f k l1).bind fun t613 => (if t612 = 0 then (if t613 = 0 then (gradineref21_Two.l0 k l0 l1) else (some (([] : List Int), t613))) else (some (([] : List Int), t612))))
def gradineref21_Two.T14 : Bool × List (List Nat × List Nat) := (true, [([], []), ([], []), ([0, 1], [0, 1]), ([2], [2]), ([], []), ([], []), ([4, 5], [4, 5]), ([6], [6]), ([3, 7], [3, 7]), ([8], [8]), ([9], [9]), ([9], [9]), ([10, 11, 9], [9, 10, 11]), ([12, 9], [9, 12]), ([13, 9], [9, 13]), ([9, 14], [9, 14]), ([15, 9], [15]), ([16], [16]), ([16], [16]), ([17, 18, 16], [16, 17, 18]), ([19, 16], [16, 19]), ([20, 16], [16, 20]), ([16, 21], [16, 21])])
def gradineref21_Two.B14 : List Nat := [0, 0, 3, 7, 0, 0, 48, 112, 255, 511, 1023, 1023, 4095, 8191, 16383, 32767, 65535, 131071, 131071, 524287, 1048575, 2097151, 4194303]
theorem gradineref21_Two.tab14 : rtab .any (opsOf Try.f67 14) = gradineref21_Two.T14 := by kernel_rfl
theorem gradineref21_Two.bits14 : waitsOk gradineref21_Two.T14.2 gradineref21_Two.B14 = true := by kernel_rfl
def gradineref21_Two.T16 : Bool × List (List Nat × List Nat) := (true, [([], []), ([], []), ([], []), ([1, 2], [1, 2]), ([3], [3]), ([], []), ([], []), ([5, 6], [5, 6]), ([7], [7]), ([4, 8], [4, 8]), ([9], [9]), ([0, 10], [0, 10]), ([11, 11, 0, 1, 2, 3, 4, 5, 6, 7, 8, 9, 10, 11], [0, 11])])
def gradineref21_Two.B16 : List Nat := [0, 0, 0, 6, 14, 0, 0, 96, 224, 510, 1022, 2047, 4095]
theorem gradineref21_Two.tab16 : rtab .any (opsOf Try.f67 16) = gradineref21_Two.T16 := by kernel_rfl
theorem gradineref21_Two.bits16 : waitsOk gradineref21_Two.T16.2 gradineref21_Two.B16 = true := by kernel_rfl
set_option maxHeartbeats 8000000 in
set_option maxRecDepth 100000 in
theorem gradineref21_Two.calls (k : Nat) (P0_ : Nat → Prop) (A0 : Option Addr) (c0 : Nat) (l0 : List Int) (P1_ : Nat → Prop) (A1 : Option Addr) (c1 : Nat) (l1 : List Int) (r1 : List Int) (r2 : Int) (w : World) (hs0 : Kd.V (Kd.int .i64) 3 w w.heap.size (fun k_ => P0_ k_) (.slice A0 l0.length c0) l0) (hs1 : Kd.V (Kd.int .i64) 3 w w.heap.size (fun k_ => P1_ k_) (.slice A1 l1.length c1) l1) (h : gradineref21_Two.f k l0 l1 = some (r1, r2)) :
  Calls Try.prog 67 #[.slice A0 l0.length c0, .slice A1 l1.length c1] w fun e w' => ∃ v0_ : Value, e = .returned (.tuple #[v0_, .int .i64 r2]) ∧ Kd.R (Kd.int .i64) 3 w' w.heap.size (fun k_ => (w.heap.size ≤ k_)) v0_ r1 ∧ Below w.heap.size w w' := by
 have HO0 := aM (show Kd.V (Kd.int .i64) 3 w w.heap.size (fun k_ => ((P0_ k_ ∨ P1_ k_) ∨ w.heap.size ≤ k_)) (.slice A0 l0.length c0) l0 from Kd.V_mono hs0 (fun k_ hk => .inl (.inl hk)))
 have HO1 := aM (show Kd.V (Kd.int .i64) 3 w w.heap.size (fun k_ => ((P0_ k_ ∨ P1_ k_) ∨ w.heap.size ≤ k_)) (.slice A1 l1.length c1) l1 from Kd.V_mono hs1 (fun k_ hk => .inl (.inr hk)))
 have HB := aM (Below.refl w.heap.size w)
 have H : ((gradineref19_Check.f k l0).bind fun t612 => ((gradineref19_Check.f k l1).bind fun t613 => (if t612 = 0 then (if t613 = 0 then (gradineref21_Two.l0 k l0 l1) else (some (([] : List Int), t613))) else (some (([] : List Int), t612))))) = some (r1, r2) := h
 clear h
 replace H := Option.bind_eq_some_iff.mp H
 obtain ⟨t612, A30, H⟩ := H
 try dsimp only at H
 have A3 := aM A30
 clear A30
 replace H := Option.bind_eq_some_iff.mp H
 obtain ⟨t613, A40, H⟩ := H
 try dsimp only at H
 have A4 := aM A40
 clear A40
 by_cases c5 : t612 = 0
 rotate_left
 ·rw [if_neg c5] at H
  have c5b0 : (t612 == 0) = false := beq_eq_false_iff_ne.mpr c5
  have c5b1 : (t612 != 0) = true := bne_iff_ne.mpr c5
  simp only [Option.some.injEq, Prod.mk.injEq] at H
  obtain ⟨rfl, rfl⟩ := H
  go_enter Try.func67, Try.ntmps67
  go_wp2_with (first | ((with_reducible refine gate_callee (f := 15) rfl ?_); refine goesL_ (some 11) rfl rfl Try.func15 (by kernel_rfl) rfl #[.slice A0 l0.length c0] rfl pA ?_; (with_reducible refine (gradineref19_Check.calls k _ _ l0 t612 _ ?s1 ?s2 A3.out).mono ?_); (case s1 => exact pC (Kd.V_reads' HO0.out).2.2); (case s2 => exact (Kd.V_reads' HO0.out).2.1); rintro e w' ⟨rfl, ⟨nd, rfl⟩⟩; refine ⟨_, rfl, ?_⟩) | ((with_reducible refine gate_callee (f := 15) rfl ?_); refine goesL_ (some 13) rfl rfl Try.func15 (by kernel_rfl) rfl #[.slice A1 l1.length c1] rfl pA ?_; (with_reducible refine (gradineref19_Check.calls k _ _ l1 t613 _ ?s1 ?s2 A4.out).mono ?_); (case s1 => exact pC (Kd.V_reads' HO1.out).2.2); (case s2 => exact (Kd.V_reads' HO1.out).2.1); rintro e w' ⟨rfl, ⟨nd, rfl⟩⟩; refine ⟨_, rfl, ?_⟩))
  go_ret2
  exact ⟨_, pE, pN, qB HB⟩
 rw [if_pos c5] at H
 have c5b0 : (t612 == 0) = true := beq_iff_eq.mpr c5
 have c5b1 : (t612 != 0) = false := bne_eq_false_iff_eq.mpr c5
 clear c5
 by_cases c6 : t613 = 0
 rotate_left
 ·rw [if_neg c6] at H
  have c6b0 : (t613 == 0) = false := beq_eq_false_iff_ne.mpr c6
  have c6b1 : (t613 != 0) = true := bne_iff_ne.mpr c6
  simp only [Option.some.injEq, Prod.mk.injEq] at H
  obtain ⟨rfl, rfl⟩ := H
  go_enter Try.func67, Try.ntmps67
  go_wp2_with (first | ((with_reducible refine gate_callee (f := 15) rfl ?_); refine goesL_ (some 11) rfl rfl Try.func15 (by kernel_rfl) rfl #[.slice A0 l0.length c0] rfl pA ?_; (with_reducible refine (gradineref19_Check.calls k _ _ l0 t612 _ ?s1 ?s2 A3.out).mono ?_); (case s1 => exact pC (Kd.V_reads' HO0.out).2.2); (case s2 => exact (Kd.V_reads' HO0.out).2.1); rintro e w' ⟨rfl, ⟨nd, rfl⟩⟩; refine ⟨_, rfl, ?_⟩) | ((with_reducible refine gate_callee (f := 15) rfl ?_); refine goesL_ (some 13) rfl rfl Try.func15 (by kernel_rfl) rfl #[.slice A1 l1.length c1] rfl pA ?_; (with_reducible refine (gradineref19_Check.calls k _ _ l1 t613 _ ?s1 ?s2 A4.out).mono ?_); (case s1 => exact pC (Kd.V_reads' HO1.out).2.2); (case s2 => exact (Kd.V_reads' HO1.out).2.1); rintro e w' ⟨rfl, ⟨nd, rfl⟩⟩; refine ⟨_, rfl, ?_⟩))
  go_ret2
  exact ⟨_, pE, pN, qB HB⟩
 rw [if_pos c6] at H
 have c6b0 : (t613 == 0) = true := beq_iff_eq.mpr c6
 have c6b1 : (t613 != 0) = false := bne_eq_false_iff_eq.mpr c6
 clear c6
 have H' := aM H
 clear H
 go_enter Try.func67, Try.ntmps67
 go_wp2_with (first | ((with_reducible refine gate_callee (f := 15) rfl ?_); refine goesL_ (some 11) rfl rfl Try.func15 (by kernel_rfl) rfl #[.slice A0 l0.length c0] rfl pA ?_; (with_reducible refine (gradineref19_Check.calls k _ _ l0 t612 _ ?s1 ?s2 A3.out).mono ?_); (case s1 => exact pC (Kd.V_reads' HO0.out).2.2); (case s2 => exact (Kd.V_reads' HO0.out).2.1); rintro e w' ⟨rfl, ⟨nd, rfl⟩⟩; refine ⟨_, rfl, ?_⟩) | ((with_reducible refine gate_callee (f := 15) rfl ?_); refine goesL_ (some 13) rfl rfl Try.func15 (by kernel_rfl) rfl #[.slice A1 l1.length c1] rfl pA ?_; (with_reducible refine (gradineref19_Check.calls k _ _ l1 t613 _ ?s1 ?s2 A4.out).mono ?_); (case s1 => exact pC (Kd.V_reads' HO1.out).2.2); (case s2 => exact (Kd.V_reads' HO1.out).2.1); rintro e w' ⟨rfl, ⟨nd, rfl⟩⟩; refine ⟨_, rfl, ?_⟩))
 go_loopg [0] k (fun kq v0 w' => ∃ (x0_1 : List Int), Aside0 (gradineref21_Two.l0 kq x0_1 l1 = some (r1, r2)) ∧ Aside0 (kq ≤ k) ∧ Aside0 (Kd.V (Kd.int .i64) 3 w' w.heap.size (fun k_ => ((P0_ k_ ∨ P1_ k_) ∨ w.heap.size ≤ k_)) v0 x0_1) ∧ Aside0 (Kd.V (Kd.int .i64) 3 w' w.heap.size (fun k_ => ((P0_ k_ ∨ P1_ k_) ∨ w.heap.size ≤ k_)) (.slice A1 l1.length c1) l1) ∧ Aside0 (Below w.heap.size w w'))
 case atStart => exact ⟨(l0), H', ⟨Nat.le_refl _⟩, ⟨pV HO0.out⟩, ⟨pV HO1.out⟩, ⟨qB HB⟩⟩
 case round =>
  clear H'
  try clear c1
  try clear c5b0
  try clear c5b1
  try clear c6b0
  try clear c6b1
  obtain ⟨x0_1, HA, HK1, HO_0, HO_1, HB⟩ := hrel
  cases gk with
  | zero => exact absurd HA.out (by simp [gradineref21_Two.l0])
  | succ k1 =>
   have H := HA.out
   clear HA
   simp only [gradineref21_Two.l0] at H
   by_cases c7 : (x0_1.length : Int) < (l1.length : Int)
   ·rw [if_pos c7] at H
    have c7b0 : decide ((x0_1.length : Int) < (l1.length : Int)) = true := decide_eq_true c7
    have c7b1 : decide (x0_1.length < l1.length) = true := decide_eq_true (Int.ofNat_lt.mp c7)
    clear c7
    obtain ⟨y614, hy614⟩ : ∃ y_ : List Int, y_ = (([1] : List Int)) := ⟨_, rfl⟩
    replace H : (if y614.length + x0_1.length < 17592186044416 then (gradineref21_Two.l0 k1 (y614 ++ x0_1) l1) else (none)) = some (r1, r2) := pH hy614 H
    have Ny614 := aM hy614
    clear hy614
    by_cases c8 : y614.length + x0_1.length < 17592186044416
    rotate_left
    ·rw [if_neg c8] at H
     exact absurd H (by simp)
    rw [if_pos c8] at H
    have LMc8 := aM c8
    clear c8
    obtain ⟨y617, hy617⟩ : ∃ y_ : List Int, y_ = (y614 ++ x0_1) := ⟨_, rfl⟩
    replace H : (gradineref21_Two.l0 k1 y617 l1) = some (r1, r2) := pH hy617 H
    have Ny617 := aM hy617
    clear hy617
    have H' := aM H
    clear H
    obtain ⟨Ao9, co9, eo9⟩ := Kd.V_slice HO_0.out
    subst eo9
    go_wp2_with (first | ((with_reducible refine gate_dst (N := 25) rfl ?_); refine Kd.R_lit (Kd.int .i64) _ 3 ?hg (N := 25) ?hd (xs := ([1] : List Int)) (inner := [.int .i64 1]) (ok := fun _ => True) (okp := fun _ => True) ?hr ?hp (fun _ hk => hk) trivial (Below.refl _ _) (Nat.le_refl _) (by simp) ?_; (case hd => rfl); (case hg => rfl); (case hr => first | (go_simp; done) | (go_simp; rfl)); (case hp => exact (Reps.one (show Kd.M (Kd.int .i64) _ _ _ 1 [.int .i64 1] from rfl) (Reps.none _ _))); intro v615 w10 ho11 hb hg_ hnew_; clear hg_ hnew_; (first | rw [← Ny614.out] at ho11 | (simp only [Int.reduceToNat] at ho11; rw [← Ny614.out] at ho11)); replace HO_0 := aM (Kd.V_elder' (pV HO_0.out) (Kd.R_base ho11) hb); replace HO_1 := aM (Kd.V_elder' (pV HO_1.out) (Kd.R_base ho11) hb); have HO616 := aM (Kd.R_lower (Kd.R_newM (M := fun k_ => (w.heap.size ≤ k_)) ho11 (below_size (qB HB)) (fun k_ h_ => h_)) (below_size (qB HB))); replace HB := bS (qB HB) hb; clear hb ho11) | ((with_reducible refine gate_builtin (b := .append) (xs := #[.tmp 25, .tmp 26]) rfl ?_); at_builtin; refine Kd.R_append_rows (Kd.int .i64) (w0 := w) w.heap.size rfl (.tmp 25) (.tmp 26) 22 3 (.int .i64 0) 8 rfl Try.underlying22 info3 rfl (by decide) (by omega) v615 y614 x0_1 _ _ _ (fun k_ => (w.heap.size ≤ k_)) (fun _ => False) rfl rfl ?aO ?aR (fun _ _ h => h) (fun _ h => h.elim) ?aF ?aB ?aS ?aL ?_; (case aR => exact pC (Kd.V_reads' HO_0.out).2.2); (case aB => exact (qB HB)); (case aF => exact (fun k_ hk => (Nat.le_trans (below_size (qB HB)) hk))); (case aO => exact (by (with_reducible repeat (first | apply rA | apply rN | apply rD)); exact Kd.R_mono HO616.out (fun _ hk => hk.1))); (case aS => exact (below_size (qB HB))); (case aL => have := LMc8.out; omega); intro v618 w12 ho hb hg hat; rw [← Ny617.out] at ho; replace HO_0 := aM (Kd.V_afterv (ok := (fun k_ => ((P0_ k_ ∨ P1_ k_) ∨ w.heap.size ≤ k_))) (pV HO_0.out) hg hat); replace HO_1 := aM (Kd.V_afterv (ok := (fun k_ => ((P0_ k_ ∨ P1_ k_) ∨ w.heap.size ≤ k_))) (pV HO_1.out) hg hat); replace HB := aM (hb); have HO619 := aM (ho); clear HO616; clear ho hb hg hat))
    go_roundg k1
    case measure => have := HK1.out; omega
    case rel => exact ⟨(y617), H', ⟨by have := HK1.out; omega⟩, ⟨Kd.V_mono (Kd.R_V (pR HO619.out)) (fun k_ hk => by first | exact ⟨(.inr (hk.1)), hk.2⟩ | exact (.inr (hk)))⟩, ⟨by (with_reducible repeat (first | apply Kd.V_alloc | apply Kd.V_drewN | apply Kd.V_drew)); exact Kd.V_mono HO_1.out (fun _ hk => hk.1)⟩, ⟨qB HB⟩⟩
   rw [if_neg c7] at H
   have c7b0 : decide ((x0_1.length : Int) < (l1.length : Int)) = false := decide_eq_false c7
   have c7b1 : decide (x0_1.length < l1.length) = false := decide_eq_false (fun h => c7 (Int.ofNat_lt.mpr h))
   clear c7
   have H' := aM H
   clear H
   obtain ⟨Ao13, co13, eo13⟩ := Kd.V_slice HO_0.out
   subst eo13
   go_wp2
   go_loopg [1] k1 (fun kq v1 w' => ∃ (x1_2 : List Int), Aside0 (gradineref21_Two.l1 kq x0_1 x1_2 = some (r1, r2)) ∧ Aside0 (kq ≤ k1) ∧ Aside0 (Kd.V (Kd.int .i64) 3 w' w.heap.size (fun k_ => ((P0_ k_ ∨ P1_ k_) ∨ w.heap.size ≤ k_)) (.slice Ao13 x0_1.length co13) x0_1) ∧ Aside0 (Kd.V (Kd.int .i64) 3 w' w.heap.size (fun k_ => ((P0_ k_ ∨ P1_ k_) ∨ w.heap.size ≤ k_)) v1 x1_2) ∧ Aside0 (Below w.heap.size w w'))
   case atStart => exact ⟨(l1), H', ⟨Nat.le_refl _⟩, ⟨pV HO_0.out⟩, ⟨pV HO_1.out⟩, ⟨qB HB⟩⟩
   case round =>
    clear H'
    try clear c7b0
    try clear c7b1
    obtain ⟨x1_2, HA, HK2, HO_0, HO_1, HB⟩ := hrel
    cases gk with
    | zero => exact absurd HA.out (by simp [gradineref21_Two.l1])
    | succ k2 =>
     have H := HA.out
     clear HA
     simp only [gradineref21_Two.l1] at H
     by_cases c14 : (x1_2.length : Int) < (x0_1.length : Int)
     ·rw [if_pos c14] at H
      have c14b0 : decide ((x1_2.length : Int) < (x0_1.length : Int)) = true := decide_eq_true c14
      have c14b1 : decide (x1_2.length < x0_1.length) = true := decide_eq_true (Int.ofNat_lt.mp c14)
      clear c14
      obtain ⟨y620, hy620⟩ : ∃ y_ : List Int, y_ = (([1] : List Int)) := ⟨_, rfl⟩
      replace H : (if y620.length + x1_2.length < 17592186044416 then (gradineref21_Two.l1 k2 x0_1 (y620 ++ x1_2)) else (none)) = some (r1, r2) := pH hy620 H
      have Ny620 := aM hy620
      clear hy620
      by_cases c15 : y620.length + x1_2.length < 17592186044416
      rotate_left
      ·rw [if_neg c15] at H
       exact absurd H (by simp)
      rw [if_pos c15] at H
      have LMc15 := aM c15
      clear c15
      obtain ⟨y623, hy623⟩ : ∃ y_ : List Int, y_ = (y620 ++ x1_2) := ⟨_, rfl⟩
      replace H : (gradineref21_Two.l1 k2 x0_1 y623) = some (r1, r2) := pH hy623 H
      have Ny623 := aM hy623
      clear hy623
      have H' := aM H
      clear H
      obtain ⟨Ao16, co16, eo16⟩ := Kd.V_slice HO_1.out
      subst eo16
      go_wp2_with (first | ((with_reducible refine gate_dst (N := 33) rfl ?_); refine Kd.R_lit (Kd.int .i64) _ 3 ?hg (N := 33) ?hd (xs := ([1] : List Int)) (inner := [.int .i64 1]) (ok := fun _ => True) (okp := fun _ => True) ?hr ?hp (fun _ hk => hk) trivial (Below.refl _ _) (Nat.le_refl _) (by simp) ?_; (case hd => rfl); (case hg => rfl); (case hr => first | (go_simp; done) | (go_simp; rfl)); (case hp => exact (Reps.one (show Kd.M (Kd.int .i64) _ _ _ 1 [.int .i64 1] from rfl) (Reps.none _ _))); intro v621 w17 ho18 hb hg_ hnew_; clear hg_ hnew_; (first | rw [← Ny620.out] at ho18 | (simp only [Int.reduceToNat] at ho18; rw [← Ny620.out] at ho18)); replace HO_0 := aM (Kd.V_elder' (pV HO_0.out) (Kd.R_base ho18) hb); replace HO_1 := aM (Kd.V_elder' (pV HO_1.out) (Kd.R_base ho18) hb); have HO622 := aM (Kd.R_lower (Kd.R_newM (M := fun k_ => (w.heap.size ≤ k_)) ho18 (below_size (qB HB)) (fun k_ h_ => h_)) (below_size (qB HB))); replace HB := bS (qB HB) hb; clear hb ho18) | ((with_reducible refine gate_builtin (b := .append) (xs := #[.tmp 33, .tmp 34]) rfl ?_); at_builtin; refine Kd.R_append_rows (Kd.int .i64) (w0 := w) w.heap.size rfl (.tmp 33) (.tmp 34) 22 3 (.int .i64 0) 8 rfl Try.underlying22 info3 rfl (by decide) (by omega) v621 y620 x1_2 _ _ _ (fun k_ => (w.heap.size ≤ k_)) (fun _ => False) rfl rfl ?aO ?aR (fun _ _ h => h) (fun _ h => h.elim) ?aF ?aB ?aS ?aL ?_; (case aR => exact pC (Kd.V_reads' HO_1.out).2.2); (case aB => exact (qB HB)); (case aF => exact (fun k_ hk => (Nat.le_trans (below_size (qB HB)) hk))); (case aO => exact (by (with_reducible repeat (first | apply rA | apply rN | apply rD)); exact Kd.R_mono HO622.out (fun _ hk => hk.1))); (case aS => exact (below_size (qB HB))); (case aL => have := LMc15.out; omega); intro v624 w19 ho hb hg hat; rw [← Ny623.out] at ho; replace HO_0 := aM (Kd.V_afterv (ok := (fun k_ => ((P0_ k_ ∨ P1_ k_) ∨ w.heap.size ≤ k_))) (pV HO_0.out) hg hat); replace HO_1 := aM (Kd.V_afterv (ok := (fun k_ => ((P0_ k_ ∨ P1_ k_) ∨ w.heap.size ≤ k_))) (pV HO_1.out) hg hat); replace HB := aM (hb); have HO625 := aM (ho); clear HO622; clear ho hb hg hat))
      go_roundg k2
      case measure => have := HK1.out; have := HK2.out; omega
      case rel => exact ⟨(y623), H', ⟨by have := HK1.out; have := HK2.out; omega⟩, ⟨by (with_reducible repeat (first | apply Kd.V_alloc | apply Kd.V_drewN | apply Kd.V_drew)); exact Kd.V_mono HO_0.out (fun _ hk => hk.1)⟩, ⟨Kd.V_mono (Kd.R_V (pR HO625.out)) (fun k_ hk => by first | exact ⟨(.inr (hk.1)), hk.2⟩ | exact (.inr (hk)))⟩, ⟨qB HB⟩⟩
     rw [if_neg c14] at H
     have c14b0 : decide ((x1_2.length : Int) < (x0_1.length : Int)) = false := decide_eq_false c14
     have c14b1 : decide (x1_2.length < x0_1.length) = false := decide_eq_false (fun h => c14 (Int.ofNat_lt.mpr h))
     clear c14
     have H' := aM H
     clear H
     obtain ⟨Ao20, co20, eo20⟩ := Kd.V_slice HO_1.out
     subst eo20
     go_wp2
     go_loopg [8, 38] k2 (fun kq v8 v38 w' => ∃ (x8_3 : List Int) (x38_3 : Int), v38 = .int .i64 x38_3 ∧ Aside0 (gradineref21_Two.l2 kq x0_1 x1_2 x8_3 (x0_1.length : Int) x38_3 = some (r1, r2)) ∧ Aside0 (kq ≤ k2) ∧ Aside0 (Kd.V (Kd.int .i64) 3 w' w.heap.size (fun k_ => ((P0_ k_ ∨ P1_ k_) ∨ w.heap.size ≤ k_) ∧ some k_ ≠ (v8 : Value).ownBlock) (.slice Ao13 x0_1.length co13) x0_1) ∧ Aside0 (Kd.V (Kd.int .i64) 3 w' w.heap.size (fun k_ => ((P0_ k_ ∨ P1_ k_) ∨ w.heap.size ≤ k_) ∧ some k_ ≠ (v8 : Value).ownBlock) (.slice Ao20 x1_2.length co20) x1_2) ∧ Aside0 (Kd.R (Kd.int .i64) 3 w' w.heap.size (fun k_ => (w.heap.size ≤ k_)) v8 x8_3) ∧ Aside0 (Below w.heap.size w w'))
     case atStart => exact ⟨(([] : List Int)), (0), (pF), H', ⟨Nat.le_refl _⟩, ⟨by (with_reducible repeat (first | apply Kd.V_alloc | apply Kd.V_drewN | apply Kd.V_drew)); exact Kd.V_mono HO_0.out (fun _ hk => ⟨hk, (by simp [Value.ownBlock])⟩)⟩, ⟨by (with_reducible repeat (first | apply Kd.V_alloc | apply Kd.V_drewN | apply Kd.V_drew)); exact Kd.V_mono HO_1.out (fun _ hk => ⟨hk, (by simp [Value.ownBlock])⟩)⟩, ⟨pN⟩, ⟨qB HB⟩⟩
     case round =>
      clear H'
      try clear c14b0
      try clear c14b1
      obtain ⟨x8_3, x38_3, rfl, HA, HK3, HO_0, HO_1, HO_8, HB⟩ := hrel
      cases gk with
      | zero => exact absurd HA.out (by simp [gradineref21_Two.l2])
      | succ k3 =>
       have H := HA.out
       clear HA
       simp only [gradineref21_Two.l2] at H
       by_cases c21 : x38_3 < (x0_1.length : Int)
       rotate_left
       ·rw [if_neg c21] at H
        have c21b0 : decide (x38_3 < (x0_1.length : Int)) = false := decide_eq_false c21
        clear c21
        replace H := Option.bind_eq_some_iff.mp H
        obtain ⟨t645, A440, H⟩ := H
        try dsimp only at H
        have A44 := aM A440
        clear A440
        by_cases c45 : t645 = 0
        rotate_left
        ·rw [if_neg c45] at H
         have c45b0 : (t645 == 0) = false := beq_eq_false_iff_ne.mpr c45
         have c45b1 : (t645 != 0) = true := bne_iff_ne.mpr c45
         simp only [Option.some.injEq, Prod.mk.injEq] at H
         obtain ⟨rfl, rfl⟩ := H
         obtain ⟨Ao47, co47, eo47⟩ := Kd.R_slice HO_8.out
         subst eo47
         go_wp2_with (first | ((with_reducible refine gate_callee (f := 15) rfl ?_); refine goesL_ (some 78) rfl rfl Try.func15 (by kernel_rfl) rfl #[.slice Ao47 x8_3.length co47] rfl pA ?_; (with_reducible refine (gradineref19_Check.calls k3 _ _ x8_3 t645 _ ?s1 ?s2 A44.out).mono ?_); (case s1 => exact sR HO_8); (case s2 => exact sL HO_8); rintro e w' ⟨rfl, ⟨nd, rfl⟩⟩; refine ⟨_, rfl, ?_⟩))
         go_ret2
         exact ⟨_, pE, pN, qB HB⟩
        rw [if_pos c45] at H
        have c45b0 : (t645 == 0) = true := beq_iff_eq.mpr c45
        have c45b1 : (t645 != 0) = false := bne_eq_false_iff_eq.mpr c45
        clear c45
        simp only [Option.some.injEq, Prod.mk.injEq] at H
        obtain ⟨rfl, rfl⟩ := H
        obtain ⟨Ao46, co46, eo46⟩ := Kd.R_slice HO_8.out
        subst eo46
        go_wp2_with (first | ((with_reducible refine gate_callee (f := 15) rfl ?_); refine goesL_ (some 78) rfl rfl Try.func15 (by kernel_rfl) rfl #[.slice Ao46 x8_3.length co46] rfl pA ?_; (with_reducible refine (gradineref19_Check.calls k3 _ _ x8_3 t645 _ ?s1 ?s2 A44.out).mono ?_); (case s1 => exact sR HO_8); (case s2 => exact sL HO_8); rintro e w' ⟨rfl, ⟨nd, rfl⟩⟩; refine ⟨_, rfl, ?_⟩))
        go_ret2
        exact ⟨_, pE, pR HO_8.out, qB HB⟩
       rw [if_pos c21] at H
       have c21b0 : decide (x38_3 < (x0_1.length : Int)) = true := decide_eq_true c21
       clear c21
       by_cases c22 : 0 ≤ x38_3
       rotate_left
       ·rw [if_neg c22] at H
        exact absurd H (by simp)
       rw [if_pos c22] at H
       have c22b0 : decide (0 ≤ x38_3) = true := decide_eq_true c22
       clear c22
       by_cases c23 : x38_3 < (x0_1.length : Int)
       rotate_left
       ·rw [if_neg c23] at H
        exact absurd H (by simp)
       rw [if_pos c23] at H
       have c23b0 : decide (x38_3 < (x0_1.length : Int)) = true := decide_eq_true c23
       clear c23
       by_cases c24 : x38_3 < (x1_2.length : Int)
       rotate_left
       ·rw [if_neg c24] at H
        exact absurd H (by simp)
       rw [if_pos c24] at H
       have c24b0 : decide (x38_3 < (x1_2.length : Int)) = true := decide_eq_true c24
       clear c24
       by_cases c25 : (rd x0_1 x38_3) = (rd x1_2 x38_3)
       ·rw [if_pos c25] at H
        have c25b0 : ((rd x0_1 x38_3) == (rd x1_2 x38_3)) = true := beq_iff_eq.mpr c25
        have c25b1 : ((rd x0_1 x38_3) != (rd x1_2 x38_3)) = false := bne_eq_false_iff_eq.mpr c25
        clear c25
        obtain ⟨ji26, hji26⟩ : ∃ j_ : Int, (mx (rd x0_1 x38_3) (rd x1_2 x38_3)) = j_ := ⟨_, rfl⟩
        replace H : (if x8_3.length < 17592186044416 then (gradineref21_Two.l2 k3 x0_1 x1_2 (x8_3 ++ [ji26]) (x0_1.length : Int) (wrap64 (x38_3 + 1))) else (none)) = some (r1, r2) := by first | (rw [hji26] at H; exact H) | (simp only [hji26] at H ⊢; exact H)
        have hji26_ : (if (rd x0_1 x38_3) < (rd x1_2 x38_3) then (rd x1_2 x38_3) else (rd x0_1 x38_3)) = ji26 := hji26
        by_cases c27 : x8_3.length < 17592186044416
        rotate_left
        ·rw [if_neg c27] at H
         exact absurd H (by simp)
        rw [if_pos c27] at H
        have LMc27 := aM c27
        clear c27
        obtain ⟨y630, hy630⟩ : ∃ y_ : List Int, y_ = (x8_3 ++ [ji26]) := ⟨_, rfl⟩
        replace H : (gradineref21_Two.l2 k3 x0_1 x1_2 y630 (x0_1.length : Int) (wrap64 (x38_3 + 1))) = some (r1, r2) := pH hy630 H
        have Ny630 := aM hy630
        clear hy630
        have H' := aM H
        clear H
        try go_wp2
        replace HO_0 := aM (Kd.V_drew HO_0.out)
        replace HO_1 := aM (Kd.V_drew HO_1.out)
        replace HO_8 := aM (Kd.R_drew HO_8.out)
        replace HB := aM (below_drew1 HB.out)
        have p626 : 0 ≤ (x38_3 : Int) := of_decide_eq_true pD
        have q626 : x38_3 < (x0_1.length : Int) := of_decide_eq_true pD
        obtain ⟨ad626, e626, hx626_0⟩ := Kd.at_int (Kd.V_reads' HO_0.out).2.2 x38_3 p626 q626
        cases e626
        replace p626 := eq_true p626
        replace q626 := eq_true q626
        have p627 : 0 ≤ (x38_3 : Int) := of_decide_eq_true pD
        have q627 : x38_3 < (x1_2.length : Int) := of_decide_eq_true pD
        obtain ⟨ad627, e627, hx627_0⟩ := Kd.at_int (Kd.V_reads' HO_1.out).2.2 x38_3 p627 q627
        cases e627
        replace p627 := eq_true p627
        replace q627 := eq_true q627
        refine start_ (n := 23) (S := fun w' => w'.cell? (ad626.add (x38_3).toNat) = some (.int .i64 (rd x0_1 x38_3)) ∧ w'.cell? (ad627.add (x38_3).toNat) = some (.int .i64 (rd x1_2 x38_3))) (ds := []) #[false, false, false, false, false, false, false, false, false, false, false, false, false, false, false, false, false, false, false, false, false, false, false] (by kernel_rfl) rfl rfl ⟨hx626_0, hx627_0⟩ (fun hHeld => ?_); refine with_tabW gradineref21_Two.tab14 gradineref21_Two.bits14 (fun HT_ HW_ => ?_)
        generalize wr.drew = w28 at HO_0 HO_1 HO_8 HB hx626_0 hx627_0 hHeld ⊢
        refine pP (i := 0) (N := some 41) #[true, false, false, false, false, false, false, false, false, false, false, false, false, false, false, false, false, false, false, false, false, false, false] rfl rfl HT_.out ?_
        refine pP (i := 1) (N := some 42) #[true, true, false, false, false, false, false, false, false, false, false, false, false, false, false, false, false, false, false, false, false, false, false] rfl rfl HT_.out ?_
        refine pP (i := 2) (N := some 43) #[true, true, true, false, false, false, false, false, false, false, false, false, false, false, false, false, false, false, false, false, false, false, false] rfl rfl HT_.out ?_
        refine pP (i := 4) (N := some 45) #[true, true, true, false, true, false, false, false, false, false, false, false, false, false, false, false, false, false, false, false, false, false, false] rfl rfl HT_.out ?_
        refine pP (i := 5) (N := some 46) #[true, true, true, false, true, true, false, false, false, false, false, false, false, false, false, false, false, false, false, false, false, false, false] rfl rfl HT_.out ?_
        refine pP (i := 6) (N := some 47) #[true, true, true, false, true, true, true, false, false, false, false, false, false, false, false, false, false, false, false, false, false, false, false] rfl rfl HT_.out ?_
        refine pT (i := 3) (N := some 44) #[true, true, true, true, true, true, true, false, false, false, false, false, false, false, false, false, false, false, false, false, false, false, false] rfl rfl HT_.out HW_.out hHeld (by rintro w' ⟨s0, s1⟩; go_simp; with_reducible rfl) ?_
        refine pT (i := 7) (N := some 48) #[true, true, true, true, true, true, true, true, false, false, false, false, false, false, false, false, false, false, false, false, false, false, false] rfl rfl HT_.out HW_.out hHeld (by rintro w' ⟨s0, s1⟩; go_simp; with_reducible rfl) ?_
        refine pP (i := 8) (N := some 49) #[true, true, true, true, true, true, true, true, true, false, false, false, false, false, false, false, false, false, false, false, false, false, false] rfl rfl HT_.out ?_
        refine pP (i := 9) (N := some 50) #[true, true, true, true, true, true, true, true, true, true, false, false, false, false, false, false, false, false, false, false, false, false, false] rfl rfl HT_.out ?_
        refine pure_ (i := 10) (N := some 51) (v := undef) (a' := ?_) #[true, true, true, true, true, true, true, true, true, true, true, false, false, false, false, false, false, false, false, false, false, false, false] rfl rfl (any_of HT_.out (by kernel_rfl)) (fun _ _ _ h => h) (Or.inr ⟨by rfl, rfl⟩) ?_ ?_
        rotate_left
        ·simp only [Act.put, sP, i64_w, i32_w]
         rfl
        refine pure_ (i := 11) (N := some 52) (v := undef) (a' := ?_) #[true, true, true, true, true, true, true, true, true, true, true, true, false, false, false, false, false, false, false, false, false, false, false] rfl rfl (any_of HT_.out (by kernel_rfl)) (fun _ _ _ h => h) (Or.inr ⟨by rfl, rfl⟩) ?_ ?_
        rotate_left
        ·simp only [Act.put, sP, i64_w, i32_w]
         rfl
        refine pure_ (i := 12) (N := some 53) (v := undef) (a' := ?_) #[true, true, true, true, true, true, true, true, true, true, true, true, true, false, false, false, false, false, false, false, false, false, false] rfl rfl (any_of HT_.out (by kernel_rfl)) (fun _ _ _ h => h) (Or.inr ⟨by rfl, rfl⟩) ?_ ?_
        rotate_left
        ·simp only [Act.put, sP, i64_w, i32_w]
         rfl
        refine pure_ (i := 13) (N := some 54) (v := undef) (a' := ?_) #[true, true, true, true, true, true, true, true, true, true, true, true, true, true, false, false, false, false, false, false, false, false, false] rfl rfl (any_of HT_.out (by kernel_rfl)) (fun _ _ _ h => h) (Or.inr ⟨by rfl, rfl⟩) ?_ ?_
        rotate_left
        ·simp only [Act.put, sP, i64_w, i32_w]
         rfl
        refine pure_ (i := 14) (N := some 55) (v := undef) (a' := ?_) #[true, true, true, true, true, true, true, true, true, true, true, true, true, true, true, false, false, false, false, false, false, false, false] rfl rfl (any_of HT_.out (by kernel_rfl)) (fun _ _ _ h => h) (Or.inr ⟨by rfl, rfl⟩) ?_ ?_
        rotate_left
        ·simp only [Act.put, sP, i64_w, i32_w]
         rfl
        refine pP (i := 15) (N := some 56) #[true, true, true, true, true, true, true, true, true, true, true, true, true, true, true, true, false, false, false, false, false, false, false] rfl rfl HT_.out ?_
        refine pP (i := 16) (N := some 57) #[true, true, true, true, true, true, true, true, true, true, true, true, true, true, true, true, true, false, false, false, false, false, false] rfl rfl HT_.out ?_
        refine pure_ (i := 17) (N := some 58) (v := undef) (a' := ?_) #[true, true, true, true, true, true, true, true, true, true, true, true, true, true, true, true, true, true, false, false, false, false, false] rfl rfl (any_of HT_.out (by kernel_rfl)) (fun _ _ _ h => h) (Or.inr ⟨by rfl, rfl⟩) ?_ ?_
        rotate_left
        ·simp only [Act.put, sP, i64_w, i32_w]
         rfl
        refine pure_ (i := 18) (N := some 59) (v := undef) (a' := ?_) #[true, true, true, true, true, true, true, true, true, true, true, true, true, true, true, true, true, true, true, false, false, false, false] rfl rfl (any_of HT_.out (by kernel_rfl)) (fun _ _ _ h => h) (Or.inr ⟨by rfl, rfl⟩) ?_ ?_
        rotate_left
        ·simp only [Act.put, sP, i64_w, i32_w]
         rfl
        refine pure_ (i := 19) (N := some 60) (v := undef) (a' := ?_) #[true, true, true, true, true, true, true, true, true, true, true, true, true, true, true, true, true, true, true, true, false, false, false] rfl rfl (any_of HT_.out (by kernel_rfl)) (fun _ _ _ h => h) (Or.inr ⟨by rfl, rfl⟩) ?_ ?_
        rotate_left
        ·simp only [Act.put, sP, i64_w, i32_w]
         rfl
        refine pure_ (i := 20) (N := some 61) (v := undef) (a' := ?_) #[true, true, true, true, true, true, true, true, true, true, true, true, true, true, true, true, true, true, true, true, true, false, false] rfl rfl (any_of HT_.out (by kernel_rfl)) (fun _ _ _ h => h) (Or.inr ⟨by rfl, rfl⟩) ?_ ?_
        rotate_left
        ·simp only [Act.put, sP, i64_w, i32_w]
         rfl
        refine pure_ (i := 21) (N := some 62) (v := undef) (a' := ?_) #[true, true, true, true, true, true, true, true, true, true, true, true, true, true, true, true, true, true, true, true, true, true, false] rfl rfl (any_of HT_.out (by kernel_rfl)) (fun _ _ _ h => h) (Or.inr ⟨by rfl, rfl⟩) ?_ ?_
        rotate_left
        ·simp only [Act.put, sP, i64_w, i32_w]
         rfl
        refine pP (i := 22) (N := some 63) #[true, true, true, true, true, true, true, true, true, true, true, true, true, true, true, true, true, true, true, true, true, true, true] rfl rfl HT_.out ?_
        refine done_ (done_of HT_.out (by kernel_rfl)) ?_
        try go_wp2
        replace HO_0 := aM (Kd.V_drew HO_0.out)
        replace HO_1 := aM (Kd.V_drew HO_1.out)
        replace HO_8 := aM (Kd.R_drew HO_8.out)
        replace HB := aM (below_drew1 HB.out)
        have p628 : 0 ≤ (x38_3 : Int) := of_decide_eq_true pD
        have q628 : x38_3 < (x0_1.length : Int) := of_decide_eq_true pD
        obtain ⟨ad628, e628, hx628_0⟩ := Kd.at_int (Kd.V_reads' HO_0.out).2.2 x38_3 p628 q628
        obtain rfl : ad626 = ad628 := (by injection e628)
        replace p628 := eq_true p628
        replace q628 := eq_true q628
        have p629 : 0 ≤ (x38_3 : Int) := of_decide_eq_true pD
        have q629 : x38_3 < (x1_2.length : Int) := of_decide_eq_true pD
        obtain ⟨ad629, e629, hx629_0⟩ := Kd.at_int (Kd.V_reads' HO_1.out).2.2 x38_3 p629 q629
        obtain rfl : ad627 = ad629 := (by injection e629)
        replace p629 := eq_true p629
        replace q629 := eq_true q629
        refine start_ (n := 13) (S := fun w' => w'.cell? (ad626.add (x38_3).toNat) = some (.int .i64 (rd x0_1 x38_3)) ∧ w'.cell? (ad627.add (x38_3).toNat) = some (.int .i64 (rd x1_2 x38_3))) (ds := [10, 11]) #[false, false, false, false, false, false, false, false, false, false, false, false, false] (by kernel_rfl) rfl rfl ⟨hx628_0, hx629_0⟩ (fun hHeld => ?_); refine with_tabW gradineref21_Two.tab16 gradineref21_Two.bits16 (fun HT_ HW_ => ?_)
        generalize w28.drew = w29 at HO_0 HO_1 HO_8 HB hx628_0 hx629_0 hHeld ⊢
        refine pP (i := 0) (N := some 64) #[true, false, false, false, false, false, false, false, false, false, false, false, false] rfl rfl HT_.out ?_
        refine pP (i := 1) (N := some 65) #[true, true, false, false, false, false, false, false, false, false, false, false, false] rfl rfl HT_.out ?_
        refine pP (i := 2) (N := some 66) #[true, true, true, false, false, false, false, false, false, false, false, false, false] rfl rfl HT_.out ?_
        refine pP (i := 3) (N := some 67) #[true, true, true, true, false, false, false, false, false, false, false, false, false] rfl rfl HT_.out ?_
        refine pP (i := 5) (N := some 69) #[true, true, true, true, false, true, false, false, false, false, false, false, false] rfl rfl HT_.out ?_
        refine pP (i := 6) (N := some 70) #[true, true, true, true, false, true, true, false, false, false, false, false, false] rfl rfl HT_.out ?_
        refine pP (i := 7) (N := some 71) #[true, true, true, true, false, true, true, true, false, false, false, false, false] rfl rfl HT_.out ?_
        refine pT (i := 4) (N := some 68) #[true, true, true, true, true, true, true, true, false, false, false, false, false] rfl rfl HT_.out HW_.out hHeld (by rintro w' ⟨s0, s1⟩; go_simp; with_reducible rfl) ?_
        refine pT (i := 8) (N := some 72) #[true, true, true, true, true, true, true, true, true, false, false, false, false] rfl rfl HT_.out HW_.out hHeld (by rintro w' ⟨s0, s1⟩; go_simp; with_reducible rfl) ?_
        refine pP (i := 9) (N := some 73) #[true, true, true, true, true, true, true, true, true, true, false, false, false] rfl rfl HT_.out ?_
        refine last_ (i := 10) (N := some 74) #[true, true, true, true, true, true, true, true, true, true, true, false, false] rfl rfl (one_of HT_.out (by kernel_rfl)) (by decide) (fun K hK => ?_)
        refine value_ (w1 := ?_) (v := ?_) (by rfl) rfl ?_ ?_
        rotate_left 2
        ·go_simp
         constructor
         ·rfl
         ·rfl
        refine hK.out _ _ ?_
        clear hK K
        refine norm_ (a' := ?_) ?_ ?_
        rotate_left
        ·show Act.put _ (some 74) _ = _
         simp only [Act.put, sP, i64_w, i32_w]
         rfl
        refine last_ (i := 11) (N := some 75) #[true, true, true, true, true, true, true, true, true, true, true, true, false] rfl rfl (one_of HT_.out (by kernel_rfl)) (by decide) (fun K hK => ?_)
        refine Kd.R_append_step (Kd.int .i64) (w0 := w) w.heap.size (by rfl) (.tmp 64) (.tmp 74) 22 3 (.int .i64 0) 8 rfl Try.underlying22 info3 rfl (by decide) (by omega) u8 x8_3 ji26 [.int .i64 ji26] (fun k_ => (w.heap.size ≤ k_)) (fun _ => False) rfl rfl ?aP (fun _ hk => hk.elim) ?aF ?aO ?aB ?aS ?aL ?_
        (case aP => exact rfl)
        (case aB => exact (qB HB))
        (case aF => exact (fun k_ hk => (Nat.le_trans (below_size (qB HB)) hk)))
        (case aO => exact (pR HO_8.out))
        (case aS => exact (below_size (qB HB)))
        (case aL => have := LMc27.out; omega)
        intro v631 w30 ho hb hg hat
        rw [← Ny630.out] at ho
        replace HO_0 := aM (Kd.V_afterv (ok := (fun k_ => ((P0_ k_ ∨ P1_ k_) ∨ w.heap.size ≤ k_))) (pV HO_0.out) hg hat)
        replace HO_1 := aM (Kd.V_afterv (ok := (fun k_ => ((P0_ k_ ∨ P1_ k_) ∨ w.heap.size ≤ k_))) (pV HO_1.out) hg hat)
        replace HB := aM (hb)
        have HO632 := aM (ho)
        clear HO_8
        clear ho hb hg hat
        refine hK.out _ _ ?_
        clear hK K
        refine norm_ (a' := ?_) ?_ ?_
        rotate_left
        ·show Act.put _ (some 75) _ = _
         simp only [Act.put, sP, i64_w, i32_w]
         rfl
        refine pP (i := 12) (N := some 8) #[true, true, true, true, true, true, true, true, true, true, true, true, true] rfl rfl HT_.out ?_
        refine done_ (done_of HT_.out (by kernel_rfl)) ?_
        try go_wp2
        go_roundg k3
        case measure => have := HK1.out; have := HK2.out; have := HK3.out; omega
        case rel => exact ⟨(y630), (wrap64 (x38_3 + 1)), (pF), H', ⟨by have := HK1.out; have := HK2.out; have := HK3.out; omega⟩, ⟨pV HO_0.out⟩, ⟨pV HO_1.out⟩, ⟨pR HO632.out⟩, ⟨qB HB⟩⟩
       rw [if_neg c25] at H
       have c25b0 : ((rd x0_1 x38_3) == (rd x1_2 x38_3)) = false := beq_eq_false_iff_ne.mpr c25
       have c25b1 : ((rd x0_1 x38_3) != (rd x1_2 x38_3)) = true := bne_iff_ne.mpr c25
       by_cases c31 : (rd x0_1 x38_3) = 1
       ·rw [if_pos c31] at H
        have c31b0 : ((rd x0_1 x38_3) == 1) = true := beq_iff_eq.mpr c31
        have c31b1 : ((rd x0_1 x38_3) != 1) = false := bne_eq_false_iff_eq.mpr c31
        clear c31
        obtain ⟨ji32, hji32⟩ : ∃ j_ : Int, (mx (rd x0_1 x38_3) (rd x1_2 x38_3)) = j_ := ⟨_, rfl⟩
        replace H : (if x8_3.length < 17592186044416 then (gradineref21_Two.l2 k3 x0_1 x1_2 (x8_3 ++ [ji32]) (x0_1.length : Int) (wrap64 (x38_3 + 1))) else (none)) = some (r1, r2) := by first | (rw [hji32] at H; exact H) | (simp only [hji32] at H ⊢; exact H)
        have hji32_ : (if (rd x0_1 x38_3) < (rd x1_2 x38_3) then (rd x1_2 x38_3) else (rd x0_1 x38_3)) = ji32 := hji32
        by_cases c33 : x8_3.length < 17592186044416
        rotate_left
        ·rw [if_neg c33] at H
         exact absurd H (by simp)
        rw [if_pos c33] at H
        have LMc33 := aM c33
        clear c33
        obtain ⟨y636, hy636⟩ : ∃ y_ : List Int, y_ = (x8_3 ++ [ji32]) := ⟨_, rfl⟩
        replace H : (gradineref21_Two.l2 k3 x0_1 x1_2 y636 (x0_1.length : Int) (wrap64 (x38_3 + 1))) = some (r1, r2) := pH hy636 H
        have Ny636 := aM hy636
        clear hy636
        have H' := aM H
        clear H
        try go_wp2
        replace HO_0 := aM (Kd.V_drew HO_0.out)
        replace HO_1 := aM (Kd.V_drew HO_1.out)
        replace HO_8 := aM (Kd.R_drew HO_8.out)
        replace HB := aM (below_drew1 HB.out)
        have p626 : 0 ≤ (x38_3 : Int) := of_decide_eq_true pD
        have q626 : x38_3 < (x0_1.length : Int) := of_decide_eq_true pD
        obtain ⟨ad626, e626, hx626_0⟩ := Kd.at_int (Kd.V_reads' HO_0.out).2.2 x38_3 p626 q626
        cases e626
        replace p626 := eq_true p626
        replace q626 := eq_true q626
        have p627 : 0 ≤ (x38_3 : Int) := of_decide_eq_true pD
        have q627 : x38_3 < (x1_2.length : Int) := of_decide_eq_true pD
        obtain ⟨ad627, e627, hx627_0⟩ := Kd.at_int (Kd.V_reads' HO_1.out).2.2 x38_3 p627 q627
        cases e627
        replace p627 := eq_true p627
        replace q627 := eq_true q627
        have p633 : 0 ≤ (x38_3 : Int) := of_decide_eq_true pD
        have q633 : x38_3 < (x0_1.length : Int) := of_decide_eq_true pD
        obtain ⟨ad633, e633, hx633_0⟩ := Kd.at_int (Kd.V_reads' HO_0.out).2.2 x38_3 p633 q633
        obtain rfl : ad626 = ad633 := (by injection e633)
        replace p633 := eq_true p633
        replace q633 := eq_true q633
        refine start_ (n := 23) (S := fun w' => w'.cell? (ad626.add (x38_3).toNat) = some (.int .i64 (rd x0_1 x38_3)) ∧ w'.cell? (ad627.add (x38_3).toNat) = some (.int .i64 (rd x1_2 x38_3)) ∧ w'.cell? (ad626.add (x38_3).toNat) = some (.int .i64 (rd x0_1 x38_3))) (ds := []) #[false, false, false, false, false, false, false, false, false, false, false, false, false, false, false, false, false, false, false, false, false, false, false] (by kernel_rfl) rfl rfl ⟨hx626_0, hx627_0, hx633_0⟩ (fun hHeld => ?_); refine with_tabW gradineref21_Two.tab14 gradineref21_Two.bits14 (fun HT_ HW_ => ?_)
        generalize wr.drew = w34 at HO_0 HO_1 HO_8 HB hx626_0 hx627_0 hx633_0 hHeld ⊢
        refine pP (i := 0) (N := some 41) #[true, false, false, false, false, false, false, false, false, false, false, false, false, false, false, false, false, false, false, false, false, false, false] rfl rfl HT_.out ?_
        refine pP (i := 1) (N := some 42) #[true, true, false, false, false, false, false, false, false, false, false, false, false, false, false, false, false, false, false, false, false, false, false] rfl rfl HT_.out ?_
        refine pP (i := 2) (N := some 43) #[true, true, true, false, false, false, false, false, false, false, false, false, false, false, false, false, false, false, false, false, false, false, false] rfl rfl HT_.out ?_
        refine pP (i := 4) (N := some 45) #[true, true, true, false, true, false, false, false, false, false, false, false, false, false, false, false, false, false, false, false, false, false, false] rfl rfl HT_.out ?_
        refine pP (i := 5) (N := some 46) #[true, true, true, false, true, true, false, false, false, false, false, false, false, false, false, false, false, false, false, false, false, false, false] rfl rfl HT_.out ?_
        refine pP (i := 6) (N := some 47) #[true, true, true, false, true, true, true, false, false, false, false, false, false, false, false, false, false, false, false, false, false, false, false] rfl rfl HT_.out ?_
        refine pT (i := 3) (N := some 44) #[true, true, true, true, true, true, true, false, false, false, false, false, false, false, false, false, false, false, false, false, false, false, false] rfl rfl HT_.out HW_.out hHeld (by rintro w' ⟨s0, s1, s2⟩; go_simp; with_reducible rfl) ?_
        refine pT (i := 7) (N := some 48) #[true, true, true, true, true, true, true, true, false, false, false, false, false, false, false, false, false, false, false, false, false, false, false] rfl rfl HT_.out HW_.out hHeld (by rintro w' ⟨s0, s1, s2⟩; go_simp; with_reducible rfl) ?_
        refine pP (i := 8) (N := some 49) #[true, true, true, true, true, true, true, true, true, false, false, false, false, false, false, false, false, false, false, false, false, false, false] rfl rfl HT_.out ?_
        refine pP (i := 9) (N := some 50) #[true, true, true, true, true, true, true, true, true, true, false, false, false, false, false, false, false, false, false, false, false, false, false] rfl rfl HT_.out ?_
        refine pP (i := 10) (N := some 51) #[true, true, true, true, true, true, true, true, true, true, true, false, false, false, false, false, false, false, false, false, false, false, false] rfl rfl HT_.out ?_
        refine pP (i := 11) (N := some 52) #[true, true, true, true, true, true, true, true, true, true, true, true, false, false, false, false, false, false, false, false, false, false, false] rfl rfl HT_.out ?_
        refine pP (i := 12) (N := some 53) #[true, true, true, true, true, true, true, true, true, true, true, true, true, false, false, false, false, false, false, false, false, false, false] rfl rfl HT_.out ?_
        refine pT (i := 13) (N := some 54) #[true, true, true, true, true, true, true, true, true, true, true, true, true, true, false, false, false, false, false, false, false, false, false] rfl rfl HT_.out HW_.out hHeld (by rintro w' ⟨s0, s1, s2⟩; go_simp; with_reducible rfl) ?_
        refine pP (i := 14) (N := some 55) #[true, true, true, true, true, true, true, true, true, true, true, true, true, true, true, false, false, false, false, false, false, false, false] rfl rfl HT_.out ?_
        refine pP (i := 15) (N := some 56) #[true, true, true, true, true, true, true, true, true, true, true, true, true, true, true, true, false, false, false, false, false, false, false] rfl rfl HT_.out ?_
        refine pP (i := 16) (N := some 57) #[true, true, true, true, true, true, true, true, true, true, true, true, true, true, true, true, true, false, false, false, false, false, false] rfl rfl HT_.out ?_
        refine pure_ (i := 17) (N := some 58) (v := undef) (a' := ?_) #[true, true, true, true, true, true, true, true, true, true, true, true, true, true, true, true, true, true, false, false, false, false, false] rfl rfl (any_of HT_.out (by kernel_rfl)) (fun _ _ _ h => h) (Or.inr ⟨by rfl, rfl⟩) ?_ ?_
        rotate_left
        ·simp only [Act.put, sP, i64_w, i32_w]
         rfl
        refine pure_ (i := 18) (N := some 59) (v := undef) (a' := ?_) #[true, true, true, true, true, true, true, true, true, true, true, true, true, true, true, true, true, true, true, false, false, false, false] rfl rfl (any_of HT_.out (by kernel_rfl)) (fun _ _ _ h => h) (Or.inr ⟨by rfl, rfl⟩) ?_ ?_
        rotate_left
        ·simp only [Act.put, sP, i64_w, i32_w]
         rfl
        refine pure_ (i := 19) (N := some 60) (v := undef) (a' := ?_) #[true, true, true, true, true, true, true, true, true, true, true, true, true, true, true, true, true, true, true, true, false, false, false] rfl rfl (any_of HT_.out (by kernel_rfl)) (fun _ _ _ h => h) (Or.inr ⟨by rfl, rfl⟩) ?_ ?_
        rotate_left
        ·simp only [Act.put, sP, i64_w, i32_w]
         rfl
        refine pure_ (i := 20) (N := some 61) (v := undef) (a' := ?_) #[true, true, true, true, true, true, true, true, true, true, true, true, true, true, true, true, true, true, true, true, true, false, false] rfl rfl (any_of HT_.out (by kernel_rfl)) (fun _ _ _ h => h) (Or.inr ⟨by rfl, rfl⟩) ?_ ?_
        rotate_left
        ·simp only [Act.put, sP, i64_w, i32_w]
         rfl
        refine pure_ (i := 21) (N := some 62) (v := undef) (a' := ?_) #[true, true, true, true, true, true, true, true, true, true, true, true, true, true, true, true, true, true, true, true, true, true, false] rfl rfl (any_of HT_.out (by kernel_rfl)) (fun _ _ _ h => h) (Or.inr ⟨by rfl, rfl⟩) ?_ ?_
        rotate_left
        ·simp only [Act.put, sP, i64_w, i32_w]
         rfl
        refine pP (i := 22) (N := some 63) #[true, true, true, true, true, true, true, true, true, true, true, true, true, true, true, true, true, true, true, true, true, true, true] rfl rfl HT_.out ?_
        refine done_ (done_of HT_.out (by kernel_rfl)) ?_
        try go_wp2
        replace HO_0 := aM (Kd.V_drew HO_0.out)
        replace HO_1 := aM (Kd.V_drew HO_1.out)
        replace HO_8 := aM (Kd.R_drew HO_8.out)
        replace HB := aM (below_drew1 HB.out)
        have p634 : 0 ≤ (x38_3 : Int) := of_decide_eq_true pD
        have q634 : x38_3 < (x0_1.length : Int) := of_decide_eq_true pD
        obtain ⟨ad634, e634, hx634_0⟩ := Kd.at_int (Kd.V_reads' HO_0.out).2.2 x38_3 p634 q634
        obtain rfl : ad626 = ad634 := (by injection e634)
        replace p634 := eq_true p634
        replace q634 := eq_true q634
        have p635 : 0 ≤ (x38_3 : Int) := of_decide_eq_true pD
        have q635 : x38_3 < (x1_2.length : Int) := of_decide_eq_true pD
        obtain ⟨ad635, e635, hx635_0⟩ := Kd.at_int (Kd.V_reads' HO_1.out).2.2 x38_3 p635 q635
        obtain rfl : ad627 = ad635 := (by injection e635)
        replace p635 := eq_true p635
        replace q635 := eq_true q635
        refine start_ (n := 13) (S := fun w' => w'.cell? (ad626.add (x38_3).toNat) = some (.int .i64 (rd x0_1 x38_3)) ∧ w'.cell? (ad627.add (x38_3).toNat) = some (.int .i64 (rd x1_2 x38_3))) (ds := [10, 11]) #[false, false, false, false, false, false, false, false, false, false, false, false, false] (by kernel_rfl) rfl rfl ⟨hx634_0, hx635_0⟩ (fun hHeld => ?_); refine with_tabW gradineref21_Two.tab16 gradineref21_Two.bits16 (fun HT_ HW_ => ?_)
        generalize w34.drew = w35 at HO_0 HO_1 HO_8 HB hx634_0 hx635_0 hHeld ⊢
        refine pP (i := 0) (N := some 64) #[true, false, false, false, false, false, false, false, false, false, false, false, false] rfl rfl HT_.out ?_
        refine pP (i := 1) (N := some 65) #[true, true, false, false, false, false, false, false, false, false, false, false, false] rfl rfl HT_.out ?_
        refine pP (i := 2) (N := some 66) #[true, true, true, false, false, false, false, false, false, false, false, false, false] rfl rfl HT_.out ?_
        refine pP (i := 3) (N := some 67) #[true, true, true, true, false, false, false, false, false, false, false, false, false] rfl rfl HT_.out ?_
        refine pP (i := 5) (N := some 69) #[true, true, true, true, false, true, false, false, false, false, false, false, false] rfl rfl HT_.out ?_
        refine pP (i := 6) (N := some 70) #[true, true, true, true, false, true, true, false, false, false, false, false, false] rfl rfl HT_.out ?_
        refine pP (i := 7) (N := some 71) #[true, true, true, true, false, true, true, true, false, false, false, false, false] rfl rfl HT_.out ?_
        refine pT (i := 4) (N := some 68) #[true, true, true, true, true, true, true, true, false, false, false, false, false] rfl rfl HT_.out HW_.out hHeld (by rintro w' ⟨s0, s1⟩; go_simp; with_reducible rfl) ?_
        refine pT (i := 8) (N := some 72) #[true, true, true, true, true, true, true, true, true, false, false, false, false] rfl rfl HT_.out HW_.out hHeld (by rintro w' ⟨s0, s1⟩; go_simp; with_reducible rfl) ?_
        refine pP (i := 9) (N := some 73) #[true, true, true, true, true, true, true, true, true, true, false, false, false] rfl rfl HT_.out ?_
        refine last_ (i := 10) (N := some 74) #[true, true, true, true, true, true, true, true, true, true, true, false, false] rfl rfl (one_of HT_.out (by kernel_rfl)) (by decide) (fun K hK => ?_)
        refine value_ (w1 := ?_) (v := ?_) (by rfl) rfl ?_ ?_
        rotate_left 2
        ·go_simp
         constructor
         ·rfl
         ·rfl
        refine hK.out _ _ ?_
        clear hK K
        refine norm_ (a' := ?_) ?_ ?_
        rotate_left
        ·show Act.put _ (some 74) _ = _
         simp only [Act.put, sP, i64_w, i32_w]
         rfl
        refine last_ (i := 11) (N := some 75) #[true, true, true, true, true, true, true, true, true, true, true, true, false] rfl rfl (one_of HT_.out (by kernel_rfl)) (by decide) (fun K hK => ?_)
        refine Kd.R_append_step (Kd.int .i64) (w0 := w) w.heap.size (by rfl) (.tmp 64) (.tmp 74) 22 3 (.int .i64 0) 8 rfl Try.underlying22 info3 rfl (by decide) (by omega) u8 x8_3 ji32 [.int .i64 ji32] (fun k_ => (w.heap.size ≤ k_)) (fun _ => False) rfl rfl ?aP (fun _ hk => hk.elim) ?aF ?aO ?aB ?aS ?aL ?_
        (case aP => exact rfl)
        (case aB => exact (qB HB))
        (case aF => exact (fun k_ hk => (Nat.le_trans (below_size (qB HB)) hk)))
        (case aO => exact (pR HO_8.out))
        (case aS => exact (below_size (qB HB)))
        (case aL => have := LMc33.out; omega)
        intro v637 w36 ho hb hg hat
        rw [← Ny636.out] at ho
        replace HO_0 := aM (Kd.V_afterv (ok := (fun k_ => ((P0_ k_ ∨ P1_ k_) ∨ w.heap.size ≤ k_))) (pV HO_0.out) hg hat)
        replace HO_1 := aM (Kd.V_afterv (ok := (fun k_ => ((P0_ k_ ∨ P1_ k_) ∨ w.heap.size ≤ k_))) (pV HO_1.out) hg hat)
        replace HB := aM (hb)
        have HO638 := aM (ho)
        clear HO_8
        clear ho hb hg hat
        refine hK.out _ _ ?_
        clear hK K
        refine norm_ (a' := ?_) ?_ ?_
        rotate_left
        ·show Act.put _ (some 75) _ = _
         simp only [Act.put, sP, i64_w, i32_w]
         rfl
        refine pP (i := 12) (N := some 8) #[true, true, true, true, true, true, true, true, true, true, true, true, true] rfl rfl HT_.out ?_
        refine done_ (done_of HT_.out (by kernel_rfl)) ?_
        try go_wp2
        go_roundg k3
        case measure => have := HK1.out; have := HK2.out; have := HK3.out; omega
        case rel => exact ⟨(y636), (wrap64 (x38_3 + 1)), (pF), H', ⟨by have := HK1.out; have := HK2.out; have := HK3.out; omega⟩, ⟨pV HO_0.out⟩, ⟨pV HO_1.out⟩, ⟨pR HO638.out⟩, ⟨qB HB⟩⟩
       rw [if_neg c31] at H
       have c31b0 : ((rd x0_1 x38_3) == 1) = false := beq_eq_false_iff_ne.mpr c31
       have c31b1 : ((rd x0_1 x38_3) != 1) = true := bne_iff_ne.mpr c31
       by_cases c37 : (rd x1_2 x38_3) = 1
       rotate_left
       ·rw [if_neg c37] at H
        have c37b0 : ((rd x1_2 x38_3) == 1) = false := beq_eq_false_iff_ne.mpr c37
        have c37b1 : ((rd x1_2 x38_3) != 1) = true := bne_iff_ne.mpr c37
        simp only [Option.some.injEq, Prod.mk.injEq] at H
        obtain ⟨rfl, rfl⟩ := H
        try go_wp2
        replace HO_0 := aM (Kd.V_drew HO_0.out)
        replace HO_1 := aM (Kd.V_drew HO_1.out)
        replace HO_8 := aM (Kd.R_drew HO_8.out)
        replace HB := aM (below_drew1 HB.out)
        have p626 : 0 ≤ (x38_3 : Int) := of_decide_eq_true pD
        have q626 : x38_3 < (x0_1.length : Int) := of_decide_eq_true pD
        obtain ⟨ad626, e626, hx626_0⟩ := Kd.at_int (Kd.V_reads' HO_0.out).2.2 x38_3 p626 q626
        cases e626
        replace p626 := eq_true p626
        replace q626 := eq_true q626
        have p627 : 0 ≤ (x38_3 : Int) := of_decide_eq_true pD
        have q627 : x38_3 < (x1_2.length : Int) := of_decide_eq_true pD
        obtain ⟨ad627, e627, hx627_0⟩ := Kd.at_int (Kd.V_reads' HO_1.out).2.2 x38_3 p627 q627
        cases e627
        replace p627 := eq_true p627
        replace q627 := eq_true q627
        have p633 : 0 ≤ (x38_3 : Int) := of_decide_eq_true pD
        have q633 : x38_3 < (x0_1.length : Int) := of_decide_eq_true pD
        obtain ⟨ad633, e633, hx633_0⟩ := Kd.at_int (Kd.V_reads' HO_0.out).2.2 x38_3 p633 q633
        obtain rfl : ad626 = ad633 := (by injection e633)
        replace p633 := eq_true p633
        replace q633 := eq_true q633
        have p639 : 0 ≤ (x38_3 : Int) := of_decide_eq_true pD
        have q639 : x38_3 < (x1_2.length : Int) := of_decide_eq_true pD
        obtain ⟨ad639, e639, hx639_0⟩ := Kd.at_int (Kd.V_reads' HO_1.out).2.2 x38_3 p639 q639
        obtain rfl : ad627 = ad639 := (by injection e639)
        replace p639 := eq_true p639
        replace q639 := eq_true q639
        refine start_ (n := 23) (S := fun w' => w'.cell? (ad626.add (x38_3).toNat) = some (.int .i64 (rd x0_1 x38_3)) ∧ w'.cell? (ad627.add (x38_3).toNat) = some (.int .i64 (rd x1_2 x38_3)) ∧ w'.cell? (ad626.add (x38_3).toNat) = some (.int .i64 (rd x0_1 x38_3)) ∧ w'.cell? (ad627.add (x38_3).toNat) = some (.int .i64 (rd x1_2 x38_3))) (ds := []) #[false, false, false, false, false, false, false, false, false, false, false, false, false, false, false, false, false, false, false, false, false, false, false] (by kernel_rfl) rfl rfl ⟨hx626_0, hx627_0, hx633_0, hx639_0⟩ (fun hHeld => ?_); refine with_tabW gradineref21_Two.tab14 gradineref21_Two.bits14 (fun HT_ HW_ => ?_)
        generalize wr.drew = w43 at HO_0 HO_1 HO_8 HB hx626_0 hx627_0 hx633_0 hx639_0 hHeld ⊢
        refine pP (i := 0) (N := some 41) #[true, false, false, false, false, false, false, false, false, false, false, false, false, false, false, false, false, false, false, false, false, false, false] rfl rfl HT_.out ?_
        refine pP (i := 1) (N := some 42) #[true, true, false, false, false, false, false, false, false, false, false, false, false, false, false, false, false, false, false, false, false, false, false] rfl rfl HT_.out ?_
        refine pP (i := 2) (N := some 43) #[true, true, true, false, false, false, false, false, false, false, false, false, false, false, false, false, false, false, false, false, false, false, false] rfl rfl HT_.out ?_
        refine pP (i := 4) (N := some 45) #[true, true, true, false, true, false, false, false, false, false, false, false, false, false, false, false, false, false, false, false, false, false, false] rfl rfl HT_.out ?_
        refine pP (i := 5) (N := some 46) #[true, true, true, false, true, true, false, false, false, false, false, false, false, false, false, false, false, false, false, false, false, false, false] rfl rfl HT_.out ?_
        refine pP (i := 6) (N := some 47) #[true, true, true, false, true, true, true, false, false, false, false, false, false, false, false, false, false, false, false, false, false, false, false] rfl rfl HT_.out ?_
        refine pT (i := 3) (N := some 44) #[true, true, true, true, true, true, true, false, false, false, false, false, false, false, false, false, false, false, false, false, false, false, false] rfl rfl HT_.out HW_.out hHeld (by rintro w' ⟨s0, s1, s2, s3⟩; go_simp; with_reducible rfl) ?_
        refine pT (i := 7) (N := some 48) #[true, true, true, true, true, true, true, true, false, false, false, false, false, false, false, false, false, false, false, false, false, false, false] rfl rfl HT_.out HW_.out hHeld (by rintro w' ⟨s0, s1, s2, s3⟩; go_simp; with_reducible rfl) ?_
        refine pP (i := 8) (N := some 49) #[true, true, true, true, true, true, true, true, true, false, false, false, false, false, false, false, false, false, false, false, false, false, false] rfl rfl HT_.out ?_
        refine pP (i := 9) (N := some 50) #[true, true, true, true, true, true, true, true, true, true, false, false, false, false, false, false, false, false, false, false, false, false, false] rfl rfl HT_.out ?_
        refine pP (i := 10) (N := some 51) #[true, true, true, true, true, true, true, true, true, true, true, false, false, false, false, false, false, false, false, false, false, false, false] rfl rfl HT_.out ?_
        refine pP (i := 11) (N := some 52) #[true, true, true, true, true, true, true, true, true, true, true, true, false, false, false, false, false, false, false, false, false, false, false] rfl rfl HT_.out ?_
        refine pP (i := 12) (N := some 53) #[true, true, true, true, true, true, true, true, true, true, true, true, true, false, false, false, false, false, false, false, false, false, false] rfl rfl HT_.out ?_
        refine pT (i := 13) (N := some 54) #[true, true, true, true, true, true, true, true, true, true, true, true, true, true, false, false, false, false, false, false, false, false, false] rfl rfl HT_.out HW_.out hHeld (by rintro w' ⟨s0, s1, s2, s3⟩; go_simp; with_reducible rfl) ?_
        refine pP (i := 14) (N := some 55) #[true, true, true, true, true, true, true, true, true, true, true, true, true, true, true, false, false, false, false, false, false, false, false] rfl rfl HT_.out ?_
        refine pP (i := 15) (N := some 56) #[true, true, true, true, true, true, true, true, true, true, true, true, true, true, true, true, false, false, false, false, false, false, false] rfl rfl HT_.out ?_
        refine pP (i := 16) (N := some 57) #[true, true, true, true, true, true, true, true, true, true, true, true, true, true, true, true, true, false, false, false, false, false, false] rfl rfl HT_.out ?_
        refine pP (i := 17) (N := some 58) #[true, true, true, true, true, true, true, true, true, true, true, true, true, true, true, true, true, true, false, false, false, false, false] rfl rfl HT_.out ?_
        refine pP (i := 18) (N := some 59) #[true, true, true, true, true, true, true, true, true, true, true, true, true, true, true, true, true, true, true, false, false, false, false] rfl rfl HT_.out ?_
        refine pP (i := 19) (N := some 60) #[true, true, true, true, true, true, true, true, true, true, true, true, true, true, true, true, true, true, true, true, false, false, false] rfl rfl HT_.out ?_
        refine pT (i := 20) (N := some 61) #[true, true, true, true, true, true, true, true, true, true, true, true, true, true, true, true, true, true, true, true, true, false, false] rfl rfl HT_.out HW_.out hHeld (by rintro w' ⟨s0, s1, s2, s3⟩; go_simp; with_reducible rfl) ?_
        refine pP (i := 21) (N := some 62) #[true, true, true, true, true, true, true, true, true, true, true, true, true, true, true, true, true, true, true, true, true, true, false] rfl rfl HT_.out ?_
        refine pP (i := 22) (N := some 63) #[true, true, true, true, true, true, true, true, true, true, true, true, true, true, true, true, true, true, true, true, true, true, true] rfl rfl HT_.out ?_
        refine done_ (done_of HT_.out (by kernel_rfl)) ?_
        try go_wp2
        go_ret2
        exact ⟨_, pE, pN, qB HB⟩
       rw [if_pos c37] at H
       have c37b0 : ((rd x1_2 x38_3) == 1) = true := beq_iff_eq.mpr c37
       have c37b1 : ((rd x1_2 x38_3) != 1) = false := bne_eq_false_iff_eq.mpr c37
       clear c37
       obtain ⟨ji38, hji38⟩ : ∃ j_ : Int, (mx (rd x0_1 x38_3) (rd x1_2 x38_3)) = j_ := ⟨_, rfl⟩
       replace H : (if x8_3.length < 17592186044416 then (gradineref21_Two.l2 k3 x0_1 x1_2 (x8_3 ++ [ji38]) (x0_1.length : Int) (wrap64 (x38_3 + 1))) else (none)) = some (r1, r2) := by first | (rw [hji38] at H; exact H) | (simp only [hji38] at H ⊢; exact H)
       have hji38_ : (if (rd x0_1 x38_3) < (rd x1_2 x38_3) then (rd x1_2 x38_3) else (rd x0_1 x38_3)) = ji38 := hji38
       by_cases c39 : x8_3.length < 17592186044416
       rotate_left
       ·rw [if_neg c39] at H
        exact absurd H (by simp)
       rw [if_pos c39] at H
       have LMc39 := aM c39
       clear c39
       obtain ⟨y642, hy642⟩ : ∃ y_ : List Int, y_ = (x8_3 ++ [ji38]) := ⟨_, rfl⟩
       replace H : (gradineref21_Two.l2 k3 x0_1 x1_2 y642 (x0_1.length : Int) (wrap64 (x38_3 + 1))) = some (r1, r2) := pH hy642 H
       have Ny642 := aM hy642
       clear hy642
       have H' := aM H
       clear H
       try go_wp2
       replace HO_0 := aM (Kd.V_drew HO_0.out)
       replace HO_1 := aM (Kd.V_drew HO_1.out)
       replace HO_8 := aM (Kd.R_drew HO_8.out)
       replace HB := aM (below_drew1 HB.out)
       have p626 : 0 ≤ (x38_3 : Int) := of_decide_eq_true pD
       have q626 : x38_3 < (x0_1.length : Int) := of_decide_eq_true pD
       obtain ⟨ad626, e626, hx626_0⟩ := Kd.at_int (Kd.V_reads' HO_0.out).2.2 x38_3 p626 q626
       cases e626
       replace p626 := eq_true p626
       replace q626 := eq_true q626
       have p627 : 0 ≤ (x38_3 : Int) := of_decide_eq_true pD
       have q627 : x38_3 < (x1_2.length : Int) := of_decide_eq_true pD
       obtain ⟨ad627, e627, hx627_0⟩ := Kd.at_int (Kd.V_reads' HO_1.out).2.2 x38_3 p627 q627
       cases e627
       replace p627 := eq_true p627
       replace q627 := eq_true q627
       have p633 : 0 ≤ (x38_3 : Int) := of_decide_eq_true pD
       have q633 : x38_3 < (x0_1.length : Int) := of_decide_eq_true pD
       obtain ⟨ad633, e633, hx633_0⟩ := Kd.at_int (Kd.V_reads' HO_0.out).2.2 x38_3 p633 q633
       obtain rfl : ad626 = ad633 := (by injection e633)
       replace p633 := eq_true p633
       replace q633 := eq_true q633
       have p639 : 0 ≤ (x38_3 : Int) := of_decide_eq_true pD
       have q639 : x38_3 < (x1_2.length : Int) := of_decide_eq_true pD
       obtain ⟨ad639, e639, hx639_0⟩ := Kd.at_int (Kd.V_reads' HO_1.out).2.2 x38_3 p639 q639
       obtain rfl : ad627 = ad639 := (by injection e639)
       replace p639 := eq_true p639
       replace q639 := eq_true q639
       refine start_ (n := 23) (S := fun w' => w'.cell? (ad626.add (x38_3).toNat) = some (.int .i64 (rd x0_1 x38_3)) ∧ w'.cell? (ad627.add (x38_3).toNat) = some (.int .i64 (rd x1_2 x38_3)) ∧ w'.cell? (ad626.add (x38_3).toNat) = some (.int .i64 (rd x0_1 x38_3)) ∧ w'.cell? (ad627.add (x38_3).toNat) = some (.int .i64 (rd x1_2 x38_3))) (ds := []) #[false, false, false, false, false, false, false, false, false, false, false, false, false, false, false, false, false, false, false, false, false, false, false] (by kernel_rfl) rfl rfl ⟨hx626_0, hx627_0, hx633_0, hx639_0⟩ (fun hHeld => ?_); refine with_tabW gradineref21_Two.tab14 gradineref21_Two.bits14 (fun HT_ HW_ => ?_)
       generalize wr.drew = w40 at HO_0 HO_1 HO_8 HB hx626_0 hx627_0 hx633_0 hx639_0 hHeld ⊢
       refine pP (i := 0) (N := some 41) #[true, false, false, false, false, false, false, false, false, false, false, false, false, false, false, false, false, false, false, false, false, false, false] rfl rfl HT_.out ?_
       refine pP (i := 1) (N := some 42) #[true, true, false, false, false, false, false, false, false, false, false, false, false, false, false, false, false, false, false, false, false, false, false] rfl rfl HT_.out ?_
       refine pP (i := 2) (N := some 43) #[true, true, true, false, false, false, false, false, false, false, false, false, false, false, false, false, false, false, false, false, false, false, false] rfl rfl HT_.out ?_
       refine pP (i := 4) (N := some 45) #[true, true, true, false, true, false, false, false, false, false, false, false, false, false, false, false, false, false, false, false, false, false, false] rfl rfl HT_.out ?_
       refine pP (i := 5) (N := some 46) #[true, true, true, false, true, true, false, false, false, false, false, false, false, false, false, false, false, false, false, false, false, false, false] rfl rfl HT_.out ?_
       refine pP (i := 6) (N := some 47) #[true, true, true, false, true, true, true, false, false, false, false, false, false, false, false, false, false, false, false, false, false, false, false] rfl rfl HT_.out ?_
       refine pT (i := 3) (N := some 44) #[true, true, true, true, true, true, true, false, false, false, false, false, false, false, false, false, false, false, false, false, false, false, false] rfl rfl HT_.out HW_.out hHeld (by rintro w' ⟨s0, s1, s2, s3⟩; go_simp; with_reducible rfl) ?_
       refine pT (i := 7) (N := some 48) #[true, true, true, true, true, true, true, true, false, false, false, false, false, false, false, false, false, false, false, false, false, false, false] rfl rfl HT_.out HW_.out hHeld (by rintro w' ⟨s0, s1, s2, s3⟩; go_simp; with_reducible rfl) ?_
       refine pP (i := 8) (N := some 49) #[true, true, true, true, true, true, true, true, true, false, false, false, false, false, false, false, false, false, false, false, false, false, false] rfl rfl HT_.out ?_
       refine pP (i := 9) (N := some 50) #[true, true, true, true, true, true, true, true, true, true, false, false, false, false, false, false, false, false, false, false, false, false, false] rfl rfl HT_.out ?_
       refine pP (i := 10) (N := some 51) #[true, true, true, true, true, true, true, true, true, true, true, false, false, false, false, false, false, false, false, false, false, false, false] rfl rfl HT_.out ?_
       refine pP (i := 11) (N := some 52) #[true, true, true, true, true, true, true, true, true, true, true, true, false, false, false, false, false, false, false, false, false, false, false] rfl rfl HT_.out ?_
       refine pP (i := 12) (N := some 53) #[true, true, true, true, true, true, true, true, true, true, true, true, true, false, false, false, false, false, false, false, false, false, false] rfl rfl HT_.out ?_
       refine pT (i := 13) (N := some 54) #[true, true, true, true, true, true, true, true, true, true, true, true, true, true, false, false, false, false, false, false, false, false, false] rfl rfl HT_.out HW_.out hHeld (by rintro w' ⟨s0, s1, s2, s3⟩; go_simp; with_reducible rfl) ?_
       refine pP (i := 14) (N := some 55) #[true, true, true, true, true, true, true, true, true, true, true, true, true, true, true, false, false, false, false, false, false, false, false] rfl rfl HT_.out ?_
       refine pP (i := 15) (N := some 56) #[true, true, true, true, true, true, true, true, true, true, true, true, true, true, true, true, false, false, false, false, false, false, false] rfl rfl HT_.out ?_
       refine pP (i := 16) (N := some 57) #[true, true, true, true, true, true, true, true, true, true, true, true, true, true, true, true, true, false, false, false, false, false, false] rfl rfl HT_.out ?_
       refine pP (i := 17) (N := some 58) #[true, true, true, true, true, true, true, true, true, true, true, true, true, true, true, true, true, true, false, false, false, false, false] rfl rfl HT_.out ?_
       refine pP (i := 18) (N := some 59) #[true, true, true, true, true, true, true, true, true, true, true, true, true, true, true, true, true, true, true, false, false, false, false] rfl rfl HT_.out ?_
       refine pP (i := 19) (N := some 60) #[true, true, true, true, true, true, true, true, true, true, true, true, true, true, true, true, true, true, true, true, false, false, false] rfl rfl HT_.out ?_
       refine pT (i := 20) (N := some 61) #[true, true, true, true, true, true, true, true, true, true, true, true, true, true, true, true, true, true, true, true, true, false, false] rfl rfl HT_.out HW_.out hHeld (by rintro w' ⟨s0, s1, s2, s3⟩; go_simp; with_reducible rfl) ?_
       refine pP (i := 21) (N := some 62) #[true, true, true, true, true, true, true, true, true, true, true, true, true, true, true, true, true, true, true, true, true, true, false] rfl rfl HT_.out ?_
       refine pP (i := 22) (N := some 63) #[true, true, true, true, true, true, true, true, true, true, true, true, true, true, true, true, true, true, true, true, true, true, true] rfl rfl HT_.out ?_
       refine done_ (done_of HT_.out (by kernel_rfl)) ?_
       try go_wp2
       replace HO_0 := aM (Kd.V_drew HO_0.out)
       replace HO_1 := aM (Kd.V_drew HO_1.out)
       replace HO_8 := aM (Kd.R_drew HO_8.out)
       replace HB := aM (below_drew1 HB.out)
       have p640 : 0 ≤ (x38_3 : Int) := of_decide_eq_true pD
       have q640 : x38_3 < (x0_1.length : Int) := of_decide_eq_true pD
       obtain ⟨ad640, e640, hx640_0⟩ := Kd.at_int (Kd.V_reads' HO_0.out).2.2 x38_3 p640 q640
       obtain rfl : ad626 = ad640 := (by injection e640)
       replace p640 := eq_true p640
       replace q640 := eq_true q640
       have p641 : 0 ≤ (x38_3 : Int) := of_decide_eq_true pD
       have q641 : x38_3 < (x1_2.length : Int) := of_decide_eq_true pD
       obtain ⟨ad641, e641, hx641_0⟩ := Kd.at_int (Kd.V_reads' HO_1.out).2.2 x38_3 p641 q641
       obtain rfl : ad627 = ad641 := (by injection e641)
       replace p641 := eq_true p641
       replace q641 := eq_true q641
       refine start_ (n := 13) (S := fun w' => w'.cell? (ad626.add (x38_3).toNat) = some (.int .i64 (rd x0_1 x38_3)) ∧ w'.cell? (ad627.add (x38_3).toNat) = some (.int .i64 (rd x1_2 x38_3))) (ds := [10, 11]) #[false, false, false, false, false, false, false, false, false, false, false, false, false] (by kernel_rfl) rfl rfl ⟨hx640_0, hx641_0⟩ (fun hHeld => ?_); refine with_tabW gradineref21_Two.tab16 gradineref21_Two.bits16 (fun HT_ HW_ => ?_)
       generalize w40.drew = w41 at HO_0 HO_1 HO_8 HB hx640_0 hx641_0 hHeld ⊢
       refine pP (i := 0) (N := some 64) #[true, false, false, false, false, false, false, false, false, false, false, false, false] rfl rfl HT_.out ?_
       refine pP (i := 1) (N := some 65) #[true, true, false, false, false, false, false, false, false, false, false, false, false] rfl rfl HT_.out ?_
       refine pP (i := 2) (N := some 66) #[true, true, true, false, false, false, false, false, false, false, false, false, false] rfl rfl HT_.out ?_
       refine pP (i := 3) (N := some 67) #[true, true, true, true, false, false, false, false, false, false, false, false, false] rfl rfl HT_.out ?_
       refine pP (i := 5) (N := some 69) #[true, true, true, true, false, true, false, false, false, false, false, false, false] rfl rfl HT_.out ?_
       refine pP (i := 6) (N := some 70) #[true, true, true, true, false, true, true, false, false, false, false, false, false] rfl rfl HT_.out ?_
       refine pP (i := 7) (N := some 71) #[true, true, true, true, false, true, true, true, false, false, false, false, false] rfl rfl HT_.out ?_
       refine pT (i := 4) (N := some 68) #[true, true, true, true, true, true, true, true, false, false, false, false, false] rfl rfl HT_.out HW_.out hHeld (by rintro w' ⟨s0, s1⟩; go_simp; with_reducible rfl) ?_
       refine pT (i := 8) (N := some 72) #[true, true, true, true, true, true, true, true, true, false, false, false, false] rfl rfl HT_.out HW_.out hHeld (by rintro w' ⟨s0, s1⟩; go_simp; with_reducible rfl) ?_
       refine pP (i := 9) (N := some 73) #[true, true, true, true, true, true, true, true, true, true, false, false, false] rfl rfl HT_.out ?_
       refine last_ (i := 10) (N := some 74) #[true, true, true, true, true, true, true, true, true, true, true, false, false] rfl rfl (one_of HT_.out (by kernel_rfl)) (by decide) (fun K hK => ?_)
       refine value_ (w1 := ?_) (v := ?_) (by rfl) rfl ?_ ?_
       rotate_left 2
       ·go_simp
        constructor
        ·rfl
        ·rfl
       refine hK.out _ _ ?_
       clear hK K
       refine norm_ (a' := ?_) ?_ ?_
       rotate_left
       ·show Act.put _ (some 74) _ = _
        simp only [Act.put, sP, i64_w, i32_w]
        rfl
       refine last_ (i := 11) (N := some 75) #[true, true, true, true, true, true, true, true, true, true, true, true, false] rfl rfl (one_of HT_.out (by kernel_rfl)) (by decide) (fun K hK => ?_)
       refine Kd.R_append_step (Kd.int .i64) (w0 := w) w.heap.size (by rfl) (.tmp 64) (.tmp 74) 22 3 (.int .i64 0) 8 rfl Try.underlying22 info3 rfl (by decide) (by omega) u8 x8_3 ji38 [.int .i64 ji38] (fun k_ => (w.heap.size ≤ k_)) (fun _ => False) rfl rfl ?aP (fun _ hk => hk.elim) ?aF ?aO ?aB ?aS ?aL ?_
       (case aP => exact rfl)
       (case aB => exact (qB HB))
       (case aF => exact (fun k_ hk => (Nat.le_trans (below_size (qB HB)) hk)))
       (case aO => exact (pR HO_8.out))
       (case aS => exact (below_size (qB HB)))
       (case aL => have := LMc39.out; omega)
       intro v643 w42 ho hb hg hat
       rw [← Ny642.out] at ho
       replace HO_0 := aM (Kd.V_afterv (ok := (fun k_ => ((P0_ k_ ∨ P1_ k_) ∨ w.heap.size ≤ k_))) (pV HO_0.out) hg hat)
       replace HO_1 := aM (Kd.V_afterv (ok := (fun k_ => ((P0_ k_ ∨ P1_ k_) ∨ w.heap.size ≤ k_))) (pV HO_1.out) hg hat)
       replace HB := aM (hb)
       have HO644 := aM (ho)
       clear HO_8
       clear ho hb hg hat
       refine hK.out _ _ ?_
       clear hK K
       refine norm_ (a' := ?_) ?_ ?_
       rotate_left
       ·show Act.put _ (some 75) _ = _
        simp only [Act.put, sP, i64_w, i32_w]
        rfl
       refine pP (i := 12) (N := some 8) #[true, true, true, true, true, true, true, true, true, true, true, true, true] rfl rfl HT_.out ?_
       refine done_ (done_of HT_.out (by kernel_rfl)) ?_
       try go_wp2
       go_roundg k3
       case measure => have := HK1.out; have := HK2.out; have := HK3.out; omega
       case rel => exact ⟨(y642), (wrap64 (x38_3 + 1)), (pF), H', ⟨by have := HK1.out; have := HK2.out; have := HK3.out; omega⟩, ⟨pV HO_0.out⟩, ⟨pV HO_1.out⟩, ⟨pR HO644.out⟩, ⟨qB HB⟩⟩
def gradineref21_Fits.f (k : Nat) (l0 : List Int) (l1 : List Int) : Option (Bool) := (gradineref21_Two.f k l0 l1).bind fun bt648 => (if bt648.2 = 0 then ((gradineref19_Same.f k bt648.1 l1).bind fun t652 => (some t652)) else (some false))
set_option maxHeartbeats 8000000 in
set_option maxRecDepth 100000 in
theorem gradineref21_Fits.calls (k : Nat) (A0 : Option Addr) (c0 : Nat) (l0 : List Int) (A1 : Option Addr) (c1 : Nat) (l1 : List Int) (r : Bool) (w : World) (hr0 : Kd.C (Kd.int .i64) w A0 l0.length l0) (hc0 : l0.length ≤ c0) (hr1 : Kd.C (Kd.int .i64) w A1 l1.length l1) (hc1 : l1.length ≤ c1) (h : gradineref21_Fits.f k l0 l1 = some r) :
  Calls Try.prog 61 #[.slice A0 l0.length c0, .slice A1 l1.length c1] w fun e w' => e = .returned (.bool r) ∧ Below w.heap.size w w' := by
 have HR0 := aM hr0
 have HC0 := aM hc0
 clear hr0 hc0
 have HR1 := aM hr1
 have HC1 := aM hc1
 clear hr1 hc1
 have HB := aM (Below.refl w.heap.size w)
 have H : ((gradineref21_Two.f k l0 l1).bind fun bt648 => (if bt648.2 = 0 then ((gradineref19_Same.f k bt648.1 l1).bind fun t652 => (some t652)) else (some false))) = some r := h
 clear h
 replace H := Option.bind_eq_some_iff.mp H
 obtain ⟨⟨t648, t651⟩, A30, H⟩ := H
 try dsimp only at H
 have A3 := aM A30
 clear A30
 by_cases c4 : t651 = 0
 rotate_left
 ·rw [if_neg c4] at H
  have c4b0 : (t651 == 0) = false := beq_eq_false_iff_ne.mpr c4
  have c4b1 : (t651 != 0) = true := bne_iff_ne.mpr c4
  obtain rfl := Option.some.inj H
  go_enter Try.func61, Try.ntmps61
  go_wp2_with (first | ((with_reducible refine gate_callee (f := 67) rfl ?_); refine goesL_ (some 10) rfl rfl Try.func67 (by kernel_rfl) rfl #[.slice A0 l0.length c0, .slice A1 l1.length c1] rfl pA ?_; (with_reducible refine (gradineref21_Two.calls k (fun k_ => k_ < w.heap.size) _ _ l0 (fun k_ => k_ < w.heap.size) _ _ l1 t648 t651 _ ?s1 ?s2 A3.out).mono ?_); (case s1 => exact Kd.V_mk HC0.out (Kd.F_below (Kd.C_F (Kd.heap_int .i64) HR0.out) (qB HB))); (case s2 => exact Kd.V_mk HC1.out (Kd.F_below (Kd.C_F (Kd.heap_int .i64) HR1.out) (qB HB))); rintro e w8 ⟨v649, rfl, ho0, hb⟩; refine ⟨_, rfl, ?_⟩; have HO650 := aM (Kd.R_lower (Kd.R_mono (ok' := fun k_ => True) ho0 (fun _ hk_ => trivial)) (below_size (qB HB))); replace HB := bS (qB HB) hb; (try clear hb); (try clear hk); (try clear hi); (try clear ho0)))
  go_ret
  exact ⟨pE, qB HB⟩
 rw [if_pos c4] at H
 have c4b0 : (t651 == 0) = true := beq_iff_eq.mpr c4
 have c4b1 : (t651 != 0) = false := bne_eq_false_iff_eq.mpr c4
 clear c4
 replace H := Option.bind_eq_some_iff.mp H
 obtain ⟨t652, A50, H⟩ := H
 try dsimp only at H
 have A5 := aM A50
 clear A50
 obtain rfl := Option.some.inj H
 go_enter Try.func61, Try.ntmps61
 go_wp2_with (first | ((with_reducible refine gate_callee (f := 67) rfl ?_); refine goesL_ (some 10) rfl rfl Try.func67 (by kernel_rfl) rfl #[.slice A0 l0.length c0, .slice A1 l1.length c1] rfl pA ?_; (with_reducible refine (gradineref21_Two.calls k (fun k_ => k_ < w.heap.size) _ _ l0 (fun k_ => k_ < w.heap.size) _ _ l1 t648 t651 _ ?s1 ?s2 A3.out).mono ?_); (case s1 => exact Kd.V_mk HC0.out (Kd.F_below (Kd.C_F (Kd.heap_int .i64) HR0.out) (qB HB))); (case s2 => exact Kd.V_mk HC1.out (Kd.F_below (Kd.C_F (Kd.heap_int .i64) HR1.out) (qB HB))); rintro e w6 ⟨v649, rfl, ho0, hb⟩; refine ⟨_, rfl, ?_⟩; have HO650 := aM (Kd.R_lower (Kd.R_mono (ok' := fun k_ => True) ho0 (fun _ hk_ => trivial)) (below_size (qB HB))); replace HB := bS (qB HB) hb; (try clear hb); (try clear hk); (try clear hi); (try clear ho0); obtain ⟨Ao7, co7, eo7⟩ := Kd.R_slice HO650.out; subst eo7) | (go_at_call 68; (with_reducible refine (gradineref19_Same.calls k _ _ t648 _ _ l1 t652 _ ?s1 ?s2 ?s3 ?s4 A5.out).mono ?_); (case s1 => exact sR HO650); (case s2 => exact sL HO650); (case s3 => exact sC HR1 HB); (case s4 => exact HC1.out); rintro e w' ⟨rfl, ⟨nd, rfl⟩⟩))
 go_ret
 exact ⟨pE, qB HB⟩
def gradineref21_place.l0 : Nat → List Int → List Int → Int → Int → Int → Option (Int)
 | 0, _, _, _, _, _ => none
 | k + 1, x0, x1, x5, x8, x9 => if x9 < x8 then (if 0 ≤ x9 then (if x9 < (x0.length : Int) then (if x9 < (x1.length : Int) then (gradineref21_place.l0 k x0 x1 (wrap64 ((wrap64 (x5 * (rd x0 x9))) + (rd x1 x9))) x8 (wrap64 (x9 + 1))) else (none)) else (none)) else (none)) else (some x5)
def gradineref21_place.f (k : Nat) (l0 : List Int) (l1 : List Int) : Option (Int) := gradineref21_place.l0 k l0 l1 0 (l0.length : Int) 0
set_option maxHeartbeats 8000000 in
set_option maxRecDepth 100000 in
theorem gradineref21_place.calls (k : Nat) (A0 : Option Addr) (c0 : Nat) (l0 : List Int) (A1 : Option Addr) (c1 : Nat) (l1 : List Int) (r : Int) (w : World) (hr0 : Kd.C (Kd.int .i64) w A0 l0.length l0) (hc0 : l0.length ≤ c0) (hr1 : Kd.C (Kd.int .i64) w A1 l1.length l1) (hc1 : l1.length ≤ c1) (h : gradineref21_place.f k l0 l1 = some r) :
  Calls Try.prog 69 #[.slice A0 l0.length c0, .slice A1 l1.length c1] w fun e w' => e = .returned (.int .i64 r) ∧ Drawn0 w w' := by
 have HR0 := aM hr0
 have HC0 := aM hc0
 clear hr0 hc0
 have HR1 := aM hr1
 have HC1 := aM hc1
 clear hr1 hc1
 have H : (gradineref21_place.l0 k l0 l1 0 (l0.length : Int) 0) = some r := h
 clear h
 have H' := aM H
 clear H
 go_enter Try.func69, Try.ntmps69
 go_wp2
 repeat (go_quiet (fail); try go_wp2)
 go_loopg [5, 9] k (fun kq v5 v9 w' => ∃ (x5_1 : Int) (x9_1 : Int), v5 = .int .i64 x5_1 ∧ v9 = .int .i64 x9_1 ∧ Aside0 (gradineref21_place.l0 kq l0 l1 x5_1 (l0.length : Int) x9_1 = some r) ∧ Aside0 (kq ≤ k) ∧ Drawn0 w w')
 case atStart => exact ⟨(0), (0), (pF), (pF), H', ⟨Nat.le_refl _⟩, by repeat (first | exact Drawn0.refl _ | apply Drawn0.step)⟩
 case round =>
  clear H'
  try clear c1
  obtain ⟨x5_1, x9_1, rfl, rfl, HA, HK1, ⟨m1, rfl⟩⟩ := hrel
  cases gk with
  | zero => exact absurd HA.out (by simp [gradineref21_place.l0])
  | succ k1 =>
   have H := HA.out
   clear HA
   simp only [gradineref21_place.l0] at H
   by_cases c3 : x9_1 < (l0.length : Int)
   rotate_left
   ·rw [if_neg c3] at H
    have c3b0 : decide (x9_1 < (l0.length : Int)) = false := decide_eq_false c3
    clear c3
    obtain rfl := Option.some.inj H
    go_wp2
    repeat (go_quiet (fail); try go_wp2)
    go_ret
    exact ⟨pF, by repeat (first | exact Drawn0.refl _ | apply Drawn0.step)⟩
   rw [if_pos c3] at H
   have c3b0 : decide (x9_1 < (l0.length : Int)) = true := decide_eq_true c3
   clear c3
   by_cases c4 : 0 ≤ x9_1
   rotate_left
   ·rw [if_neg c4] at H
    exact absurd H (by simp)
   rw [if_pos c4] at H
   have c4b0 : decide (0 ≤ x9_1) = true := decide_eq_true c4
   clear c4
   by_cases c5 : x9_1 < (l0.length : Int)
   rotate_left
   ·rw [if_neg c5] at H
    exact absurd H (by simp)
   rw [if_pos c5] at H
   have c5b0 : decide (x9_1 < (l0.length : Int)) = true := decide_eq_true c5
   clear c5
   by_cases c6 : x9_1 < (l1.length : Int)
   rotate_left
   ·rw [if_neg c6] at H
    exact absurd H (by simp)
   rw [if_pos c6] at H
   have c6b0 : decide (x9_1 < (l1.length : Int)) = true := decide_eq_true c6
   clear c6
   have H' := aM H
   clear H
   have p653 : 0 ≤ (x9_1 : Int) := of_decide_eq_true pD
   have q653 : x9_1 < (l0.length : Int) := of_decide_eq_true pD
   obtain ⟨ad653, e653, hx653_0⟩ := Kd.at_int HR0.out x9_1 p653 q653
   cases e653
   replace p653 := eq_true p653
   replace q653 := eq_true q653
   have p654 : 0 ≤ (x9_1 : Int) := of_decide_eq_true pD
   have q654 : x9_1 < (l1.length : Int) := of_decide_eq_true pD
   obtain ⟨ad654, e654, hx654_0⟩ := Kd.at_int HR1.out x9_1 p654 q654
   cases e654
   replace p654 := eq_true p654
   replace q654 := eq_true q654
   go_wp2
   repeat (go_quiet (fail); try go_wp2)
   go_roundg k1
   case measure => have := HK1.out; omega
   case rel => exact ⟨(wrap64 ((wrap64 (x5_1 * (rd l0 x9_1))) + (rd l1 x9_1))), (wrap64 (x9_1 + 1)), (pF), (pF), H', ⟨by have := HK1.out; omega⟩, by repeat (first | exact Drawn0.refl _ | apply Drawn0.step)⟩
mutual
def gradineref21_Sources.l0 : Nat → List Int → List Int → List (List Int) → List Int → Int → Int → Option (List Int)
 | 0, _, _, _, _, _, _ => none
 | k + 1, x0, x1, x5, x6, x17, x18 => if x18 < x17 then (gradineref21_Sources.l1 k x0 x1 x5 x6 x18 ([] : List Int) x17 x18 (x0.length : Int) 0) else (some x6)
def gradineref21_Sources.l1 : Nat → List Int → List Int → List (List Int) → List Int → Int → List Int → Int → Int → Int → Int → Option (List Int)
 | 0, _, _, _, _, _, _, _, _, _, _ => none
 | k + 1, x0, x1, x5, x6, x7, x8, x17, x18, x22, x23 => if x23 < x22 then (if 0 ≤ x23 then (if x23 < (x0.length : Int) then (if (rd x0 x23) = 1 then (if x8.length < 17592186044416 then (gradineref21_Sources.l1 k x0 x1 x5 x6 x7 (x8 ++ [0]) x17 x18 x22 (wrap64 (x23 + 1))) else (none)) else (if 0 ≤ x7 then (if x7 < (x5.length : Int) then (if 0 ≤ (wrap64 ((wrap64 ((x1.length : Int) - (x0.length : Int))) + x23)) then (if (wrap64 ((wrap64 ((x1.length : Int) - (x0.length : Int))) + x23)) < ((rd_L1 x5 x7).length : Int) then (if x8.length < 17592186044416 then (gradineref21_Sources.l1 k x0 x1 x5 x6 x7 (x8 ++ [rd (rd_L1 x5 x7) (wrap64 ((wrap64 ((x1.length : Int) - (x0.length : Int))) + x23))]) x17 x18 x22 (wrap64 (x23 + 1))) else (none)) else (none)) else (none)) else (none)) else (none))) else (none)) else (none)) else ((gradineref21_place.f k x0 x8).bind fun t668 => (if x6.length < 17592186044416 then (gradineref21_Sources.l0 k x0 x1 x5 (x6 ++ [t668]) x17 (wrap64 (x18 + 1))) else (none)))
end
def gradineref21_Sources.f (k : Nat) (l0 : List Int) (l1 : List Int) : Option (List Int) := (gradineref21_Fits.f k l0 l1).bind fun t655 => (if t655 = true then ((gradineref20_All.f k l1).bind fun t656 => (gradineref21_Sources.l0 k l0 l1 t656 ([] : List Int) (t656.length : Int) 0)) else (some ([] : List Int)))
set_option maxHeartbeats 8000000 in
set_option maxRecDepth 100000 in
theorem gradineref21_Sources.calls (k : Nat) (A0 : Option Addr) (c0 : Nat) (l0 : List Int) (A1 : Option Addr) (c1 : Nat) (l1 : List Int) (r : List Int) (w : World) (hr0 : Kd.C (Kd.int .i64) w A0 l0.length l0) (hc0 : l0.length ≤ c0) (hr1 : Kd.C (Kd.int .i64) w A1 l1.length l1) (hc1 : l1.length ≤ c1) (h : gradineref21_Sources.f k l0 l1 = some r) :
  Calls Try.prog 62 #[.slice A0 l0.length c0, .slice A1 l1.length c1] w fun e w' => ∃ v0_ : Value, e = .returned (v0_) ∧ Kd.R (Kd.int .i64) 3 w' w.heap.size (fun _ => True) v0_ r ∧ Below w.heap.size w w' := by
 have HR0 := aM hr0
 have HC0 := aM hc0
 clear hr0 hc0
 have HR1 := aM hr1
 have HC1 := aM hc1
 clear hr1 hc1
 have HB := aM (Below.refl w.heap.size w)
 have H : ((gradineref21_Fits.f k l0 l1).bind fun t655 => (if t655 = true then ((gradineref20_All.f k l1).bind fun t656 => (gradineref21_Sources.l0 k l0 l1 t656 ([] : List Int) (t656.length : Int) 0)) else (some ([] : List Int)))) = some r := h
 clear h
 replace H := Option.bind_eq_some_iff.mp H
 obtain ⟨t655, A30, H⟩ := H
 try dsimp only at H
 have A3 := aM A30
 clear A30
 by_cases c4 : t655 = true
 rotate_left
 ·replace c4 := Bool.eq_false_iff.mpr c4
  subst c4
  rw [if_neg (show ¬ (false = true) by decide)] at H
  obtain rfl := Option.some.inj H
  go_enter Try.func62, Try.ntmps62
  go_wp2_with (first | ((with_reducible refine gate_callee (f := 61) rfl ?_); refine goesL_ (some 12) rfl rfl Try.func61 (by kernel_rfl) rfl #[.slice A0 l0.length c0, .slice A1 l1.length c1] rfl pA ?_; (with_reducible refine (gradineref21_Fits.calls k _ _ l0 _ _ l1 false _ ?s1 ?s2 ?s3 ?s4 A3.out).mono ?_); (case s1 => exact pC HR0.out); (case s2 => exact HC0.out); (case s3 => exact pC HR1.out); (case s4 => exact HC1.out); rintro e w27 ⟨rfl, hb⟩; refine ⟨_, rfl, ?_⟩; replace HB := bS (qB HB) hb; (try clear hb); (try clear hk); (try clear hi)))
  go_ret
  exact ⟨_, pE, pN, qB HB⟩
 subst c4
 rw [if_pos rfl] at H
 replace H := Option.bind_eq_some_iff.mp H
 obtain ⟨t656, A50, H⟩ := H
 try dsimp only at H
 have A5 := aM A50
 clear A50
 have H' := aM H
 clear H
 go_enter Try.func62, Try.ntmps62
 go_wp2_with (first | ((with_reducible refine gate_callee (f := 61) rfl ?_); refine goesL_ (some 12) rfl rfl Try.func61 (by kernel_rfl) rfl #[.slice A0 l0.length c0, .slice A1 l1.length c1] rfl pA ?_; (with_reducible refine (gradineref21_Fits.calls k _ _ l0 _ _ l1 true _ ?s1 ?s2 ?s3 ?s4 A3.out).mono ?_); (case s1 => exact pC HR0.out); (case s2 => exact HC0.out); (case s3 => exact pC HR1.out); (case s4 => exact HC1.out); rintro e w6 ⟨rfl, hb⟩; refine ⟨_, rfl, ?_⟩; replace HB := bS (qB HB) hb; (try clear hb); (try clear hk); (try clear hi)) | ((with_reducible refine gate_callee (f := 38) rfl ?_); refine goesL_ (some 15) rfl rfl Try.func38 (by kernel_rfl) rfl #[.slice A1 l1.length c1] rfl pA ?_; (with_reducible refine (gradineref20_All.calls k _ _ l1 t656 _ ?s1 ?s2 A5.out).mono ?_); (case s1 => exact sC HR1 HB); (case s2 => exact HC1.out); rintro e w7 ⟨v657, rfl, ho0, hb⟩; refine ⟨_, rfl, ?_⟩; have HO658 := aM (Kd.N_lower (Kd.N_mono (ok' := fun k_ => True) ho0 (fun k_ hk_ => trivial)) (below_size (qB HB))); replace HB := bS (qB HB) hb; (try clear hb); (try clear hk); (try clear hi); (try clear ho0); obtain ⟨Ao8, co8, eo8⟩ := Kd.N_slice HO658.out; subst eo8))
 go_loopg [6, 18] k (fun kq v6 v18 w' => ∃ (x6_1 : List Int) (x18_1 : Int), v18 = .int .i64 x18_1 ∧ Aside0 (gradineref21_Sources.l0 kq l0 l1 t656 x6_1 (t656.length : Int) x18_1 = some r) ∧ Aside0 (kq ≤ k) ∧ Aside0 (Kd.N (Kd.slice 3 (Kd.int .i64)) 22 w' w.heap.size (fun k_ => some k_ ≠ (v6 : Value).ownBlock) (.slice Ao8 t656.length co8) t656) ∧ Aside0 (Kd.R (Kd.int .i64) 3 w' w.heap.size (fun _ => True) v6 x6_1) ∧ Aside0 (Below w.heap.size w w'))
 case atStart => exact ⟨(([] : List Int)), (0), (pF), H', ⟨Nat.le_refl _⟩, ⟨by (with_reducible repeat (first | apply Kd.N_alloc | apply Kd.N_drewN | apply Kd.N_drew)); exact Kd.N_mono HO658.out (fun _ hk => (by simp [Value.ownBlock]))⟩, ⟨pN⟩, ⟨qB HB⟩⟩
 case round =>
  clear H'
  try clear c1
  try clear c4
  obtain ⟨x6_1, x18_1, rfl, HA, HK1, HO_5, HO_6, HB⟩ := hrel
  cases gk with
  | zero => exact absurd HA.out (by simp [gradineref21_Sources.l0])
  | succ k1 =>
   have H := HA.out
   clear HA
   simp only [gradineref21_Sources.l0] at H
   by_cases c9 : x18_1 < (t656.length : Int)
   rotate_left
   ·rw [if_neg c9] at H
    have c9b0 : decide (x18_1 < (t656.length : Int)) = false := decide_eq_false c9
    clear c9
    obtain rfl := Option.some.inj H
    go_wp2
    go_ret
    exact ⟨_, pE, pR HO_6.out, qB HB⟩
   rw [if_pos c9] at H
   have c9b0 : decide (x18_1 < (t656.length : Int)) = true := decide_eq_true c9
   clear c9
   have H' := aM H
   clear H
   go_wp2
   go_loopg [8, 23] k1 (fun kq v8 v23 w' => ∃ (x8_2 : List Int) (x23_2 : Int), v23 = .int .i64 x23_2 ∧ Aside0 (gradineref21_Sources.l1 kq l0 l1 t656 x6_1 x18_1 x8_2 (t656.length : Int) x18_1 (l0.length : Int) x23_2 = some r) ∧ Aside0 (kq ≤ k1) ∧ Aside0 (Kd.N (Kd.slice 3 (Kd.int .i64)) 22 w' w.heap.size (fun k_ => some k_ ≠ (u6 : Value).ownBlock ∧ some k_ ≠ (v8 : Value).ownBlock) (.slice Ao8 t656.length co8) t656) ∧ Aside0 (Kd.R (Kd.int .i64) 3 w' w.heap.size (fun k_ => some k_ ≠ (v8 : Value).ownBlock) u6 x6_1) ∧ Aside0 (Kd.R (Kd.int .i64) 3 w' w.heap.size (fun k_ => some k_ ≠ (u6 : Value).ownBlock) v8 x8_2) ∧ Aside0 (Below w.heap.size w w'))
   case atStart => exact ⟨(([] : List Int)), (0), (pF), H', ⟨Nat.le_refl _⟩, ⟨by (with_reducible repeat (first | apply Kd.N_alloc | apply Kd.N_drewN | apply Kd.N_drew)); exact Kd.N_mono HO_5.out (fun _ hk => ⟨hk, (by simp [Value.ownBlock])⟩)⟩, ⟨by (with_reducible repeat (first | apply rA | apply rN | apply rD)); exact Kd.R_mono HO_6.out (fun _ hk => (by simp [Value.ownBlock]))⟩, ⟨pN⟩, ⟨qB HB⟩⟩
   case round =>
    clear H'
    try clear c9b0
    obtain ⟨x8_2, x23_2, rfl, HA, HK2, HO_5, HO_6, HO_8, HB⟩ := hrel
    cases gk with
    | zero => exact absurd HA.out (by simp [gradineref21_Sources.l1])
    | succ k2 =>
     have H := HA.out
     clear HA
     simp only [gradineref21_Sources.l1] at H
     by_cases c10 : x23_2 < (l0.length : Int)
     rotate_left
     ·rw [if_neg c10] at H
      have c10b0 : decide (x23_2 < (l0.length : Int)) = false := decide_eq_false c10
      clear c10
      replace H := Option.bind_eq_some_iff.mp H
      obtain ⟨t668, A230, H⟩ := H
      try dsimp only at H
      have A23 := aM A230
      clear A230
      by_cases c24 : x6_1.length < 17592186044416
      rotate_left
      ·rw [if_neg c24] at H
       exact absurd H (by simp)
      rw [if_pos c24] at H
      have LMc24 := aM c24
      clear c24
      obtain ⟨y669, hy669⟩ : ∃ y_ : List Int, y_ = (x6_1 ++ [t668]) := ⟨_, rfl⟩
      replace H : (gradineref21_Sources.l0 k2 l0 l1 t656 y669 (t656.length : Int) (wrap64 (x18_1 + 1))) = some r := pH hy669 H
      have Ny669 := aM hy669
      clear hy669
      have H' := aM H
      clear H
      obtain ⟨Ao25, co25, eo25⟩ := Kd.R_slice HO_8.out
      subst eo25
      go_wp2_with (first | ((with_reducible refine gate_callee (f := 69) rfl ?_); refine goesL_ (some 54) rfl rfl Try.func69 (by kernel_rfl) rfl #[.slice A0 l0.length c0, .slice Ao25 x8_2.length co25] rfl pA ?_; (with_reducible refine (gradineref21_place.calls k2 _ _ l0 _ _ x8_2 t668 _ ?s1 ?s2 ?s3 ?s4 A23.out).mono ?_); (case s1 => exact sC HR0 HB); (case s2 => exact HC0.out); (case s3 => exact sR HO_8); (case s4 => exact sL HO_8); rintro e w' ⟨rfl, ⟨nd, rfl⟩⟩; refine ⟨_, rfl, ?_⟩) | ((with_reducible refine gate_builtin (b := .append) (xs := #[.tmp 51, .tmp 55]) rfl ?_); at_builtin; refine Kd.R_append (Kd.int .i64) (w0 := w) w.heap.size rfl (.tmp 51) (.tmp 55) 22 3 (.int .i64 0) 8 rfl Try.underlying22 info3 rfl (by decide) (by omega) u6 x6_1 t668 [.int .i64 t668] (fun k_ => some k_ ≠ (.slice Ao25 x8_2.length co25 : Value).ownBlock) (fun _ => False) rfl rfl ?aP (fun _ hk => hk.elim) ?aF ?aO ?aB ?aS ?aL ?_; (case aP => exact rfl); (case aB => exact (qB HB)); (case aF => exact (fun k_ hk => Kd.fresh' (Kd.R_lt (pR HO_8.out)) k_ hk)); (case aO => exact (pR HO_6.out)); (case aS => exact (below_size (qB HB))); (case aL => have := LMc24.out; omega); intro v670 w26 ho hb hg hat; rw [← Ny669.out] at ho; replace HO_5 := aM (Kd.N_afterv (ok := (fun k_ => some k_ ≠ (.slice Ao25 x8_2.length co25 : Value).ownBlock)) (by (with_reducible repeat (first | apply Kd.N_alloc | apply Kd.N_drewN | apply Kd.N_drew)); exact Kd.N_mono HO_5.out (fun _ hk => ⟨hk.2, hk.1⟩)) hg hat); replace HO_8 := aM (Kd.R_after (ok := (fun _ => True)) (by (with_reducible repeat (first | apply rA | apply rN | apply rD)); exact Kd.R_mono HO_8.out (fun _ hk => ⟨trivial, hk⟩)) hg hat); replace HB := aM (hb); have HO671 := aM (ho); clear HO_6; clear ho hb hg hat))
      go_roundg k2
      case measure => have := HK1.out; have := HK2.out; omega
      case rel => exact ⟨(y669), (wrap64 (x18_1 + 1)), (pF), H', ⟨by have := HK1.out; have := HK2.out; omega⟩, ⟨by (with_reducible repeat (first | apply Kd.N_alloc | apply Kd.N_drewN | apply Kd.N_drew)); exact Kd.N_mono HO_5.out (fun _ hk => hk.2)⟩, ⟨by (with_reducible repeat (first | apply rA | apply rN | apply rD)); exact Kd.R_mono HO671.out (fun _ hk => trivial)⟩, ⟨qB HB⟩⟩
     rw [if_pos c10] at H
     have c10b0 : decide (x23_2 < (l0.length : Int)) = true := decide_eq_true c10
     clear c10
     by_cases c11 : 0 ≤ x23_2
     rotate_left
     ·rw [if_neg c11] at H
      exact absurd H (by simp)
     rw [if_pos c11] at H
     have c11b0 : decide (0 ≤ x23_2) = true := decide_eq_true c11
     clear c11
     by_cases c12 : x23_2 < (l0.length : Int)
     rotate_left
     ·rw [if_neg c12] at H
      exact absurd H (by simp)
     rw [if_pos c12] at H
     have c12b0 : decide (x23_2 < (l0.length : Int)) = true := decide_eq_true c12
     clear c12
     by_cases c13 : (rd l0 x23_2) = 1
     ·rw [if_pos c13] at H
      have c13b0 : ((rd l0 x23_2) == 1) = true := beq_iff_eq.mpr c13
      have c13b1 : ((rd l0 x23_2) != 1) = false := bne_eq_false_iff_eq.mpr c13
      clear c13
      by_cases c14 : x8_2.length < 17592186044416
      rotate_left
      ·rw [if_neg c14] at H
       exact absurd H (by simp)
      rw [if_pos c14] at H
      have LMc14 := aM c14
      clear c14
      obtain ⟨y660, hy660⟩ : ∃ y_ : List Int, y_ = (x8_2 ++ [0]) := ⟨_, rfl⟩
      replace H : (gradineref21_Sources.l1 k2 l0 l1 t656 x6_1 x18_1 y660 (t656.length : Int) x18_1 (l0.length : Int) (wrap64 (x23_2 + 1))) = some r := pH hy660 H
      have Ny660 := aM hy660
      clear hy660
      have H' := aM H
      clear H
      have p659 : 0 ≤ (x23_2 : Int) := of_decide_eq_true pD
      have q659 : x23_2 < (l0.length : Int) := of_decide_eq_true pD
      obtain ⟨ad659, e659, hx659_0⟩ := Kd.at_int HR0.out x23_2 p659 q659
      cases e659
      replace hx659_0 := (HB.out.cell (World.block_lt_of_cell? w _ hx659_0)).trans hx659_0
      replace p659 := eq_true p659
      replace q659 := eq_true q659
      go_wp2_with (first | ((with_reducible refine gate_builtin (b := .append) (xs := #[.tmp 31, .tmp 32]) rfl ?_); at_builtin; refine Kd.R_append (Kd.int .i64) (w0 := w) w.heap.size rfl (.tmp 31) (.tmp 32) 22 3 (.int .i64 0) 8 rfl Try.underlying22 info3 rfl (by decide) (by omega) u8 x8_2 0 [.int .i64 0] (fun k_ => some k_ ≠ (u6 : Value).ownBlock) (fun _ => False) rfl rfl ?aP (fun _ hk => hk.elim) ?aF ?aO ?aB ?aS ?aL ?_; (case aP => exact rfl); (case aB => exact (qB HB)); (case aF => exact (fun k_ hk => Kd.fresh' (Kd.R_lt (pR HO_6.out)) k_ hk)); (case aO => exact (pR HO_8.out)); (case aS => exact (below_size (qB HB))); (case aL => have := LMc14.out; omega); intro v661 w15 ho hb hg hat; rw [← Ny660.out] at ho; replace HO_5 := aM (Kd.N_afterv (ok := (fun k_ => some k_ ≠ (u6 : Value).ownBlock)) (by (with_reducible repeat (first | apply Kd.N_alloc | apply Kd.N_drewN | apply Kd.N_drew)); exact HO_5.out) hg hat); replace HO_6 := aM (Kd.R_after (ok := (fun _ => True)) (by (with_reducible repeat (first | apply rA | apply rN | apply rD)); exact Kd.R_mono HO_6.out (fun _ hk => ⟨trivial, hk⟩)) hg hat); replace HB := aM (hb); have HO662 := aM (ho); clear HO_8; clear ho hb hg hat))
      go_roundg k2
      case measure => have := HK1.out; have := HK2.out; omega
      case rel => exact ⟨(y660), (wrap64 (x23_2 + 1)), (pF), H', ⟨by have := HK1.out; have := HK2.out; omega⟩, ⟨by (with_reducible repeat (first | apply Kd.N_alloc | apply Kd.N_drewN | apply Kd.N_drew)); exact HO_5.out⟩, ⟨by (with_reducible repeat (first | apply rA | apply rN | apply rD)); exact Kd.R_mono HO_6.out (fun _ hk => hk.2)⟩, ⟨pR HO662.out⟩, ⟨qB HB⟩⟩
     rw [if_neg c13] at H
     have c13b0 : ((rd l0 x23_2) == 1) = false := beq_eq_false_iff_ne.mpr c13
     have c13b1 : ((rd l0 x23_2) != 1) = true := bne_iff_ne.mpr c13
     by_cases c16 : 0 ≤ x18_1
     rotate_left
     ·rw [if_neg c16] at H
      exact absurd H (by simp)
     rw [if_pos c16] at H
     have c16b0 : decide (0 ≤ x18_1) = true := decide_eq_true c16
     clear c16
     by_cases c17 : x18_1 < (t656.length : Int)
     rotate_left
     ·rw [if_neg c17] at H
      exact absurd H (by simp)
     rw [if_pos c17] at H
     have c17b0 : decide (x18_1 < (t656.length : Int)) = true := decide_eq_true c17
     clear c17
     obtain ⟨ji18, hji18⟩ : ∃ j_ : Int, (wrap64 ((wrap64 ((l1.length : Int) - (l0.length : Int))) + x23_2)) = j_ := ⟨_, rfl⟩
     replace H : (if 0 ≤ (ji18) then (if (ji18) < ((rd_L1 t656 x18_1).length : Int) then (if x8_2.length < 17592186044416 then (gradineref21_Sources.l1 k2 l0 l1 t656 x6_1 x18_1 (x8_2 ++ [rd (rd_L1 t656 x18_1) (ji18)]) (t656.length : Int) x18_1 (l0.length : Int) (wrap64 (x23_2 + 1))) else (none)) else (none)) else (none)) = some r := by first | (rw [hji18] at H; exact H) | (simp only [hji18] at H ⊢; exact H)
     have hji18w : (IntKind.i64.wrap ((wrap64 ((l1.length : Int) - (l0.length : Int))) + x23_2)) = ji18 := (i64_w _).trans hji18
     by_cases c19 : 0 ≤ (ji18)
     rotate_left
     ·rw [if_neg c19] at H
      exact absurd H (by simp)
     rw [if_pos c19] at H
     have c19b0 : decide (0 ≤ (ji18)) = true := decide_eq_true c19
     clear c19
     by_cases c20 : (ji18) < ((rd_L1 t656 x18_1).length : Int)
     rotate_left
     ·rw [if_neg c20] at H
      exact absurd H (by simp)
     rw [if_pos c20] at H
     have c20b0 : decide ((ji18) < ((rd_L1 t656 x18_1).length : Int)) = true := decide_eq_true c20
     clear c20
     by_cases c21 : x8_2.length < 17592186044416
     rotate_left
     ·rw [if_neg c21] at H
      exact absurd H (by simp)
     rw [if_pos c21] at H
     have LMc21 := aM c21
     clear c21
     obtain ⟨y665, hy665⟩ : ∃ y_ : List Int, y_ = (x8_2 ++ [rd (rd_L1 t656 x18_1) (ji18)]) := ⟨_, rfl⟩
     replace H : (gradineref21_Sources.l1 k2 l0 l1 t656 x6_1 x18_1 y665 (t656.length : Int) x18_1 (l0.length : Int) (wrap64 (x23_2 + 1))) = some r := pH hy665 H
     have Ny665 := aM hy665
     clear hy665
     have H' := aM H
     clear H
     have p659 : 0 ≤ (x23_2 : Int) := of_decide_eq_true pD
     have q659 : x23_2 < (l0.length : Int) := of_decide_eq_true pD
     obtain ⟨ad659, e659, hx659_0⟩ := Kd.at_int HR0.out x23_2 p659 q659
     cases e659
     replace hx659_0 := (HB.out.cell (World.block_lt_of_cell? w _ hx659_0)).trans hx659_0
     replace p659 := eq_true p659
     replace q659 := eq_true q659
     have p663 : 0 ≤ (x18_1 : Int) := of_decide_eq_true pD
     have q663 : x18_1 < (t656.length : Int) := of_decide_eq_true pD
     obtain ⟨ad663, A663_0, c663_0, e663, hx663_0, hl663_0, hi663_0⟩ := at_L1 (Kd.N_reads' HO_5.out).2.2 x18_1 p663 q663
     cases e663
     obtain ⟨ce663, hce663, hMe663, hcc663⟩ := Kd.N_get HO_5.out [] x18_1 p663 (by first | exact q663 | exact of_decide_eq_true pD | (have e_ := (Kd.N_reads' HO_5.out).1; omega))
     obtain ⟨ua663_0, uc663_0, rfl, ul663_0, ge663_0⟩ := Kd.FK_slice_open hMe663
     have hv663_0 := hcc663 0 _ rfl
     rw [Nat.add_zero, show ((Kd.slice 3 (Kd.int .i64))).sz = 1 from rfl, Nat.mul_one] at hv663_0
     replace hv663_0 := Option.some.inj (hv663_0.symm.trans hx663_0)
     injection hv663_0 with hva_ hvn_ hvc_
     rw [hva_] at ge663_0
     rw [hvc_] at ul663_0
     have HL663_0 := aM (show Kd.V (Kd.int .i64) 3 _ w.heap.size _ _ (rd_L1 t656 x18_1) from Kd.V_mk ul663_0 ge663_0)
     clear hva_ hvn_ hvc_ ge663_0 ul663_0
     clear hcc663 hce663
     have HR663_0 := aM hi663_0
     have HC663_0 := aM hl663_0
     clear hi663_0 hl663_0
     replace p663 := eq_true p663
     replace q663 := eq_true q663
     have p664 : 0 ≤ ((ji18) : Int) := of_decide_eq_true pD
     have q664 : (ji18) < ((rd_L1 t656 x18_1).length : Int) := of_decide_eq_true pD
     obtain ⟨ad664, e664, hx664_0⟩ := Kd.at_int (by repeat (first | (with_reducible exact HR663_0.out) | (with_reducible refine Kd.C_alloc ?_ _) | (with_reducible refine Kd.C_drewN ?_ _) | (with_reducible refine Kd.C_drew ?_) | exact HR663_0.out)) (ji18) p664 q664
     cases e664
     replace p664 := eq_true p664
     replace q664 := eq_true q664
     go_wp2_with (first | ((with_reducible refine gate_builtin (b := .append) (xs := #[.tmp 34, .tmp 48]) rfl ?_); at_builtin; refine Kd.R_append (Kd.int .i64) (w0 := w) w.heap.size rfl (.tmp 34) (.tmp 48) 22 3 (.int .i64 0) 8 rfl Try.underlying22 info3 rfl (by decide) (by omega) u8 x8_2 (rd (rd_L1 t656 x18_1) (ji18)) [.int .i64 (rd (rd_L1 t656 x18_1) (ji18))] (fun k_ => some k_ ≠ (u6 : Value).ownBlock) (fun _ => False) rfl rfl ?aP (fun _ hk => hk.elim) ?aF ?aO ?aB ?aS ?aL ?_; (case aP => exact rfl); (case aB => exact (qB HB)); (case aF => exact (fun k_ hk => Kd.fresh' (Kd.R_lt (pR HO_6.out)) k_ hk)); (case aO => exact (pR HO_8.out)); (case aS => exact (below_size (qB HB))); (case aL => have := LMc21.out; omega); intro v666 w22 ho hb hg hat; rw [← Ny665.out] at ho; replace HO_5 := aM (Kd.N_afterv (ok := (fun k_ => some k_ ≠ (u6 : Value).ownBlock)) (by (with_reducible repeat (first | apply Kd.N_alloc | apply Kd.N_drewN | apply Kd.N_drew)); exact HO_5.out) hg hat); replace HO_6 := aM (Kd.R_after (ok := (fun _ => True)) (by (with_reducible repeat (first | apply rA | apply rN | apply rD)); exact Kd.R_mono HO_6.out (fun _ hk => ⟨trivial, hk⟩)) hg hat); replace HL663_0 := aM (Kd.V_afterv (ok := (fun k_ => some k_ ≠ (.slice (some ad663) t656.length co8 : Value).ownBlock ∧ some k_ ≠ (u6 : Value).ownBlock)) (by (with_reducible repeat (first | apply Kd.V_alloc | apply Kd.V_drewN | apply Kd.V_drew)); exact Kd.V_mono HL663_0.out (fun _ hk => ⟨⟨hk.2, hk.1.1⟩, hk.1.2⟩)) hg hat); replace HB := aM (hb); have HO667 := aM (ho); clear HO_8; clear ho hb hg hat))
     go_roundg k2
     case measure => have := HK1.out; have := HK2.out; omega
     case rel => exact ⟨(y665), (wrap64 (x23_2 + 1)), (pF), H', ⟨by have := HK1.out; have := HK2.out; omega⟩, ⟨by (with_reducible repeat (first | apply Kd.N_alloc | apply Kd.N_drewN | apply Kd.N_drew)); exact HO_5.out⟩, ⟨by (with_reducible repeat (first | apply rA | apply rN | apply rD)); exact Kd.R_mono HO_6.out (fun _ hk => hk.2)⟩, ⟨pR HO667.out⟩, ⟨qB HB⟩⟩
def gradineref22_Expand.f (k : Nat) (l0 : List Int) (l1 : List Int) : Option (List Int × List Int × Int) := (gradineref19_Check.f k l1).bind fun t672 => (if t672 = 0 then ((gradineref21_Fits.f k l0 l1).bind fun t673 => (if t673 = true then ((some (([] : List Int) : List Int)).bind fun y674 => (if y674.length + l1.length < 17592186044416 then ((gradineref21_Sources.f k l0 l1).bind fun t680 => (some ((y674 ++ l1), t680, 0))) else (none))) else (some (([] : List Int), ([] : List Int), 8)))) else (some (([] : List Int), ([] : List Int), t672)))
set_option maxHeartbeats 8000000 in
set_option maxRecDepth 100000 in
theorem gradineref22_Expand.calls (k : Nat) (A0 : Option Addr) (c0 : Nat) (l0 : List Int) (A1 : Option Addr) (c1 : Nat) (l1 : List Int) (r1 : List Int) (r2 : List Int) (r3 : Int) (w : World) (hr0 : Kd.C (Kd.int .i64) w A0 l0.length l0) (hc0 : l0.length ≤ c0) (hr1 : Kd.C (Kd.int .i64) w A1 l1.length l1) (hc1 : l1.length ≤ c1) (h : gradineref22_Expand.f k l0 l1 = some (r1, r2, r3)) :
  Calls Try.prog 51 #[.slice A0 l0.length c0, .slice A1 l1.length c1] w fun e w' => ∃ v0_ v1_ : Value, e = .returned (.tuple #[v0_, v1_, .int .i64 r3]) ∧ Kd.R (Kd.int .i64) 3 w' w.heap.size (fun k_ => some k_ ≠ (v1_ : Value).ownBlock) v0_ r1 ∧ Kd.R (Kd.int .i64) 3 w' w.heap.size (fun k_ => some k_ ≠ (v0_ : Value).ownBlock) v1_ r2 ∧ Below w.heap.size w w' := by
 have HR0 := aM hr0
 have HC0 := aM hc0
 clear hr0 hc0
 have HR1 := aM hr1
 have HC1 := aM hc1
 clear hr1 hc1
 have HB := aM (Below.refl w.heap.size w)
 have H : ((gradineref19_Check.f k l1).bind fun t672 => (if t672 = 0 then ((gradineref21_Fits.f k l0 l1).bind fun t673 => (if t673 = true then ((some (([] : List Int) : List Int)).bind fun y674 => (if y674.length + l1.length < 17592186044416 then ((gradineref21_Sources.f k l0 l1).bind fun t680 => (some ((y674 ++ l1), t680, 0))) else (none))) else (some (([] : List Int), ([] : List Int), 8)))) else (some (([] : List Int), ([] : List Int), t672)))) = some (r1, r2, r3) := h
 clear h
 replace H := Option.bind_eq_some_iff.mp H
 obtain ⟨t672, A30, H⟩ := H
 try dsimp only at H
 have A3 := aM A30
 clear A30
 by_cases c4 : t672 = 0
 rotate_left
 ·rw [if_neg c4] at H
  have c4b0 : (t672 == 0) = false := beq_eq_false_iff_ne.mpr c4
  have c4b1 : (t672 != 0) = true := bne_iff_ne.mpr c4
  simp only [Option.some.injEq, Prod.mk.injEq] at H
  obtain ⟨rfl, rfl, rfl⟩ := H
  go_enter Try.func51, Try.ntmps51
  go_wp2_with (first | ((with_reducible refine gate_callee (f := 15) rfl ?_); refine goesL_ (some 9) rfl rfl Try.func15 (by kernel_rfl) rfl #[.slice A1 l1.length c1] rfl pA ?_; (with_reducible refine (gradineref19_Check.calls k _ _ l1 t672 _ ?s1 ?s2 A3.out).mono ?_); (case s1 => exact pC HR1.out); (case s2 => exact HC1.out); rintro e w' ⟨rfl, ⟨nd, rfl⟩⟩; refine ⟨_, rfl, ?_⟩))
  go_ret3
  exact ⟨_, _, pE, pN, pN, qB HB⟩
 rw [if_pos c4] at H
 have c4b0 : (t672 == 0) = true := beq_iff_eq.mpr c4
 have c4b1 : (t672 != 0) = false := bne_eq_false_iff_eq.mpr c4
 clear c4
 replace H := Option.bind_eq_some_iff.mp H
 obtain ⟨t673, A50, H⟩ := H
 try dsimp only at H
 have A5 := aM A50
 clear A50
 by_cases c6 : t673 = true
 rotate_left
 ·replace c6 := Bool.eq_false_iff.mpr c6
  subst c6
  rw [if_neg (show ¬ (false = true) by decide)] at H
  simp only [Option.some.injEq, Prod.mk.injEq] at H
  obtain ⟨rfl, rfl, rfl⟩ := H
  go_enter Try.func51, Try.ntmps51
  go_wp2_with (first | ((with_reducible refine gate_callee (f := 15) rfl ?_); refine goesL_ (some 9) rfl rfl Try.func15 (by kernel_rfl) rfl #[.slice A1 l1.length c1] rfl pA ?_; (with_reducible refine (gradineref19_Check.calls k _ _ l1 t672 _ ?s1 ?s2 A3.out).mono ?_); (case s1 => exact pC HR1.out); (case s2 => exact HC1.out); rintro e w' ⟨rfl, ⟨nd, rfl⟩⟩; refine ⟨_, rfl, ?_⟩) | ((with_reducible refine gate_callee (f := 61) rfl ?_); refine goesL_ (some 15) rfl rfl Try.func61 (by kernel_rfl) rfl #[.slice A0 l0.length c0, .slice A1 l1.length c1] rfl pA ?_; (with_reducible refine (gradineref21_Fits.calls k _ _ l0 _ _ l1 false _ ?s1 ?s2 ?s3 ?s4 A5.out).mono ?_); (case s1 => exact pC HR0.out); (case s2 => exact HC0.out); (case s3 => exact pC HR1.out); (case s4 => exact HC1.out); rintro e w14 ⟨rfl, hb⟩; refine ⟨_, rfl, ?_⟩; replace HB := bS (qB HB) hb; (try clear hb); (try clear hk); (try clear hi)))
  go_ret3
  exact ⟨_, _, pE, pN, pN, qB HB⟩
 subst c6
 rw [if_pos rfl] at H
 obtain ⟨y674, hy674⟩ : ∃ y_ : List Int, y_ = (([] : List Int)) := ⟨_, rfl⟩
 replace H : (if y674.length + l1.length < 17592186044416 then ((gradineref21_Sources.f k l0 l1).bind fun t680 => (some ((y674 ++ l1), t680, 0))) else (none)) = some (r1, r2, r3) := pH hy674 H
 have Ny674 := aM hy674
 clear hy674
 by_cases c7 : y674.length + l1.length < 17592186044416
 rotate_left
 ·rw [if_neg c7] at H
  exact absurd H (by simp)
 rw [if_pos c7] at H
 have LMc7 := aM c7
 clear c7
 obtain ⟨y677, hy677⟩ : ∃ y_ : List Int, y_ = (y674 ++ l1) := ⟨_, rfl⟩
 replace H : ((gradineref21_Sources.f k l0 l1).bind fun t680 => (some (y677, t680, 0))) = some (r1, r2, r3) := pH hy677 H
 have Ny677 := aM hy677
 clear hy677
 replace H := Option.bind_eq_some_iff.mp H
 obtain ⟨t680, A80, H⟩ := H
 try dsimp only at H
 have A8 := aM A80
 clear A80
 simp only [Option.some.injEq, Prod.mk.injEq] at H
 obtain ⟨rfl, rfl, rfl⟩ := H
 go_enter Try.func51, Try.ntmps51
 go_wp2_with (first | ((with_reducible refine gate_callee (f := 15) rfl ?_); refine goesL_ (some 9) rfl rfl Try.func15 (by kernel_rfl) rfl #[.slice A1 l1.length c1] rfl pA ?_; (with_reducible refine (gradineref19_Check.calls k _ _ l1 t672 _ ?s1 ?s2 A3.out).mono ?_); (case s1 => exact pC HR1.out); (case s2 => exact HC1.out); rintro e w' ⟨rfl, ⟨nd, rfl⟩⟩; refine ⟨_, rfl, ?_⟩) | ((with_reducible refine gate_callee (f := 61) rfl ?_); refine goesL_ (some 15) rfl rfl Try.func61 (by kernel_rfl) rfl #[.slice A0 l0.length c0, .slice A1 l1.length c1] rfl pA ?_; (with_reducible refine (gradineref21_Fits.calls k _ _ l0 _ _ l1 true _ ?s1 ?s2 ?s3 ?s4 A5.out).mono ?_); (case s1 => exact pC HR0.out); (case s2 => exact HC0.out); (case s3 => exact pC HR1.out); (case s4 => exact HC1.out); rintro e w9 ⟨rfl, hb⟩; refine ⟨_, rfl, ?_⟩; replace HB := bS (qB HB) hb; (try clear hb); (try clear hk); (try clear hi)) | ((with_reducible refine gate_dst (N := 17) rfl ?_); refine Kd.R_lit (Kd.int .i64) _ 3 ?hg (N := 17) ?hd (xs := ([] : List Int)) (inner := []) (ok := fun _ => True) (okp := fun _ => True) ?hr ?hp (fun _ hk => hk) trivial (Below.refl _ _) (Nat.le_refl _) (by simp) ?_; (case hd => rfl); (case hg => rfl); (case hr => first | (go_simp; done) | (go_simp; rfl)); (case hp => exact (Reps.none _ _)); intro v675 w10 ho11 hb hg_ hnew_; clear hg_ hnew_; (first | rw [← Ny674.out] at ho11 | (simp only [Int.reduceToNat] at ho11; rw [← Ny674.out] at ho11)); have HO676 := aM (Kd.R_lower ho11 (below_size (qB HB))); replace HB := bS (qB HB) hb; clear hb ho11) | ((with_reducible refine gate_builtin (b := .append) (xs := #[.tmp 17, .tmp 18]) rfl ?_); at_builtin; refine Kd.R_append_rows (Kd.int .i64) (w0 := w) w.heap.size rfl (.tmp 17) (.tmp 18) 22 3 (.int .i64 0) 8 rfl Try.underlying22 info3 rfl (by decide) (by omega) v675 y674 l1 _ _ _ (fun _ => True) (fun _ => False) rfl rfl ?aO ?aR (fun _ _ h => h) (fun _ h => h.elim) ?aF ?aB ?aS ?aL ?_; (case aR => exact sC HR1 HB); (case aB => exact (qB HB)); (case aF => exact (fun _ _ => trivial)); (case aO => exact (pR HO676.out)); (case aS => exact (below_size (qB HB))); (case aL => have := LMc7.out; omega); intro v678 w12 ho hb hg hat; rw [← Ny677.out] at ho; replace HB := aM (hb); have HO679 := aM (ho); clear HO676; clear ho hb hg hat) | ((with_reducible refine gate_callee (f := 62) rfl ?_); refine goesL_ (some 22) rfl rfl Try.func62 (by kernel_rfl) rfl #[.slice A0 l0.length c0, .slice A1 l1.length c1] rfl pA ?_; (with_reducible refine (gradineref21_Sources.calls k _ _ l0 _ _ l1 t680 _ ?s1 ?s2 ?s3 ?s4 A8.out).mono ?_); (case s1 => exact sC HR0 HB); (case s2 => exact HC0.out); (case s3 => exact sC HR1 HB); (case s4 => exact HC1.out); rintro e w13 ⟨v681, rfl, ho0, hb⟩; refine ⟨_, rfl, ?_⟩; have HO682 := aM (Kd.R_lower (Kd.R_new' ho0 (Kd.R_lt (pR HO679.out))) (below_size (qB HB))); replace HO679 := eR HO679 ho0 hb; replace HB := bS (qB HB) hb; (try clear hb); (try clear hk); (try clear hi); (try clear ho0)))
 go_ret3
 exact ⟨_, _, pE, by (with_reducible repeat (first | apply rA | apply rN | apply rD)); exact Kd.R_mono HO679.out (fun _ hk => hk.2), by (with_reducible repeat (first | apply rA | apply rN | apply rD)); exact Kd.R_mono HO682.out (fun _ hk => hk.2), qB HB⟩
mutual
def gradineref19_With.j0 : Nat → List Int → Int → Int → Bool → Option (List Int × Int)
 | 0, _, _, _, _ => none
 | k + 1, x0, x1, x2, x23 => if x23 = true then (some (([] : List Int), 10)) else (gradineref19_With.l0 k x0 x1 x2 ([] : List Int) (x0.length : Int) 0)
def gradineref19_With.l0 : Nat → List Int → Int → Int → List Int → Int → Int → Option (List Int × Int)
 | 0, _, _, _, _, _, _ => none
 | k + 1, x0, x1, x2, x9, x25, x26 => if x26 < x25 then (if x26 = x1 then (if x9.length < 17592186044416 then (gradineref19_With.l0 k x0 x1 x2 (x9 ++ [x2]) x25 (wrap64 (x26 + 1))) else (none)) else (if 0 ≤ x26 then (if x26 < (x0.length : Int) then (if x9.length < 17592186044416 then (gradineref19_With.l0 k x0 x1 x2 (x9 ++ [rd x0 x26]) x25 (wrap64 (x26 + 1))) else (none)) else (none)) else (none))) else ((gradineref19_Check.f k x9).bind fun t573 => (if t573 = 0 then (some (x9, 0)) else (some (([] : List Int), t573))))
end
def gradineref19_With.f (k : Nat) (l0 : List Int) (a1 : Int) (a2 : Int) : Option (List Int × Int) := (gradineref19_Check.f k l0).bind fun t565 => (if t565 = 0 then (if a1 < 0 then (gradineref19_With.j0 k l0 a1 a2 true) else (gradineref19_With.j0 k l0 a1 a2 (decide (a1 ≥ (l0.length : Int))))) else (some (([] : List Int), t565)))
set_option maxHeartbeats 8000000 in
set_option maxRecDepth 100000 in
theorem gradineref19_With.calls (k : Nat) (A0 : Option Addr) (c0 : Nat) (l0 : List Int) (a1 : Int) (a2 : Int) (r1 : List Int) (r2 : Int) (w : World) (hr0 : Kd.C (Kd.int .i64) w A0 l0.length l0) (hc0 : l0.length ≤ c0) (h : gradineref19_With.f k l0 a1 a2 = some (r1, r2)) :
  Calls Try.prog 66 #[.slice A0 l0.length c0, .int .i64 a1, .int .i64 a2] w fun e w' => ∃ v0_ : Value, e = .returned (.tuple #[v0_, .int .i64 r2]) ∧ Kd.R (Kd.int .i64) 3 w' w.heap.size (fun _ => True) v0_ r1 ∧ Below w.heap.size w w' := by
 have HR0 := aM hr0
 have HC0 := aM hc0
 clear hr0 hc0
 have HB := aM (Below.refl w.heap.size w)
 have H : ((gradineref19_Check.f k l0).bind fun t565 => (if t565 = 0 then (if a1 < 0 then (gradineref19_With.j0 k l0 a1 a2 true) else (gradineref19_With.j0 k l0 a1 a2 (decide (a1 ≥ (l0.length : Int))))) else (some (([] : List Int), t565)))) = some (r1, r2) := h
 clear h
 replace H := Option.bind_eq_some_iff.mp H
 obtain ⟨t565, A40, H⟩ := H
 try dsimp only at H
 have A4 := aM A40
 clear A40
 by_cases c5 : t565 = 0
 rotate_left
 ·rw [if_neg c5] at H
  have c5b0 : (t565 == 0) = false := beq_eq_false_iff_ne.mpr c5
  have c5b1 : (t565 != 0) = true := bne_iff_ne.mpr c5
  simp only [Option.some.injEq, Prod.mk.injEq] at H
  obtain ⟨rfl, rfl⟩ := H
  go_enter Try.func66, Try.ntmps66
  go_wp2_with (first | ((with_reducible refine gate_callee (f := 15) rfl ?_); refine goesL_ (some 12) rfl rfl Try.func15 (by kernel_rfl) rfl #[.slice A0 l0.length c0] rfl pA ?_; (with_reducible refine (gradineref19_Check.calls k _ _ l0 t565 _ ?s1 ?s2 A4.out).mono ?_); (case s1 => exact pC HR0.out); (case s2 => exact HC0.out); rintro e w' ⟨rfl, ⟨nd, rfl⟩⟩; refine ⟨_, rfl, ?_⟩))
  go_ret2
  exact ⟨_, pE, pN, qB HB⟩
 rw [if_pos c5] at H
 have c5b0 : (t565 == 0) = true := beq_iff_eq.mpr c5
 have c5b1 : (t565 != 0) = false := bne_eq_false_iff_eq.mpr c5
 clear c5
 have HC6 := aM H
 clear H
 go_enter Try.func66, Try.ntmps66
 go_upto_region 4 with (first | ((with_reducible refine gate_callee (f := 15) rfl ?_); refine goesL_ (some 12) rfl rfl Try.func15 (by kernel_rfl) rfl #[.slice A0 l0.length c0] rfl pA ?_; (with_reducible refine (gradineref19_Check.calls k _ _ l0 t565 _ ?s1 ?s2 A4.out).mono ?_); (case s1 => exact pC HR0.out); (case s2 => exact HC0.out); rintro e w' ⟨rfl, ⟨nd, rfl⟩⟩; refine ⟨_, rfl, ?_⟩))
 (try simp only [Act.put, sP])
 go_cut [23] (fun v23 wc => ∃ (kq : Nat) (x23_5 : Bool), v23 = .bool x23_5 ∧ Aside0 (gradineref19_With.j0 kq l0 a1 a2 x23_5 = some (r1, r2)) ∧ Aside0 (kq ≤ k) ∧ Aside0 (Below w.heap.size w wc))
 case first =>
  have H := HC6.out
  clear HC6
  by_cases c7 : a1 < 0
  ·rw [if_pos c7] at H
   have c7b0 : decide (a1 < 0) = true := decide_eq_true c7
   clear c7
   (first | rw [c7b0] | (simp only [i64_w, i32_w]; rw [c7b0]) | skip)
   have H' := aM H
   clear H
   go_wp2
   go_meet
   case rel => exact ⟨_, (true), (pF), H', ⟨by first | omega | exact Nat.le_refl _⟩, ⟨qB HB⟩⟩
  rw [if_neg c7] at H
  have c7b0 : decide (a1 < 0) = false := decide_eq_false c7
  clear c7
  (first | rw [c7b0] | (simp only [i64_w, i32_w]; rw [c7b0]) | skip)
  have H' := aM H
  clear H
  go_wp2
  go_meet
  case rel => exact ⟨_, (decide (a1 ≥ (l0.length : Int))), (pF), H', ⟨by first | omega | exact Nat.le_refl _⟩, ⟨qB HB⟩⟩
 case rest =>
  clear HC6
  try clear c5b0
  try clear c5b1
  obtain ⟨kq, x23_5, rfl, HA, HJ5, HB⟩ := hcut
  cases kq with
  | zero => exact absurd HA.out (by simp [gradineref19_With.j0])
  | succ kj5 =>
   have H := HA.out
   clear HA
   simp only [gradineref19_With.j0] at H
   by_cases c8 : x23_5 = true
   ·subst c8
    rw [if_pos rfl] at H
    simp only [Option.some.injEq, Prod.mk.injEq] at H
    obtain ⟨rfl, rfl⟩ := H
    go_wp2
    go_ret2
    exact ⟨_, pE, pN, qB HB⟩
   replace c8 := Bool.eq_false_iff.mpr c8
   subst c8
   rw [if_neg (show ¬ (false = true) by decide)] at H
   have H' := aM H
   clear H
   go_wp2
   go_loopg [9, 26] kj5 (fun kq v9 v26 w' => ∃ (x9_2 : List Int) (x26_2 : Int), v26 = .int .i64 x26_2 ∧ Aside0 (gradineref19_With.l0 kq l0 a1 a2 x9_2 (l0.length : Int) x26_2 = some (r1, r2)) ∧ Aside0 (kq ≤ kj5) ∧ Aside0 (Kd.R (Kd.int .i64) 3 w' w.heap.size (fun _ => True) v9 x9_2) ∧ Aside0 (Below w.heap.size w w'))
   case atStart => exact ⟨(([] : List Int)), (0), (pF), H', ⟨Nat.le_refl _⟩, ⟨pN⟩, ⟨qB HB⟩⟩
   case round =>
    clear H'
    try clear c8
    obtain ⟨x9_2, x26_2, rfl, HA, HK2, HO_9, HB⟩ := hrel
    cases gk with
    | zero => exact absurd HA.out (by simp [gradineref19_With.l0])
    | succ k2 =>
     have H := HA.out
     clear HA
     simp only [gradineref19_With.l0] at H
     by_cases c9 : x26_2 < (l0.length : Int)
     rotate_left
     ·rw [if_neg c9] at H
      have c9b0 : decide (x26_2 < (l0.length : Int)) = false := decide_eq_false c9
      clear c9
      replace H := Option.bind_eq_some_iff.mp H
      obtain ⟨t573, A170, H⟩ := H
      try dsimp only at H
      have A17 := aM A170
      clear A170
      by_cases c18 : t573 = 0
      rotate_left
      ·rw [if_neg c18] at H
       have c18b0 : (t573 == 0) = false := beq_eq_false_iff_ne.mpr c18
       have c18b1 : (t573 != 0) = true := bne_iff_ne.mpr c18
       simp only [Option.some.injEq, Prod.mk.injEq] at H
       obtain ⟨rfl, rfl⟩ := H
       obtain ⟨Ao20, co20, eo20⟩ := Kd.R_slice HO_9.out
       subst eo20
       go_wp2_with (first | ((with_reducible refine gate_callee (f := 15) rfl ?_); refine goesL_ (some 45) rfl rfl Try.func15 (by kernel_rfl) rfl #[.slice Ao20 x9_2.length co20] rfl pA ?_; (with_reducible refine (gradineref19_Check.calls k2 _ _ x9_2 t573 _ ?s1 ?s2 A17.out).mono ?_); (case s1 => exact sR HO_9); (case s2 => exact sL HO_9); rintro e w' ⟨rfl, ⟨nd, rfl⟩⟩; refine ⟨_, rfl, ?_⟩))
       go_ret2
       exact ⟨_, pE, pN, qB HB⟩
      rw [if_pos c18] at H
      have c18b0 : (t573 == 0) = true := beq_iff_eq.mpr c18
      have c18b1 : (t573 != 0) = false := bne_eq_false_iff_eq.mpr c18
      clear c18
      simp only [Option.some.injEq, Prod.mk.injEq] at H
      obtain ⟨rfl, rfl⟩ := H
      obtain ⟨Ao19, co19, eo19⟩ := Kd.R_slice HO_9.out
      subst eo19
      go_wp2_with (first | ((with_reducible refine gate_callee (f := 15) rfl ?_); refine goesL_ (some 45) rfl rfl Try.func15 (by kernel_rfl) rfl #[.slice Ao19 x9_2.length co19] rfl pA ?_; (with_reducible refine (gradineref19_Check.calls k2 _ _ x9_2 t573 _ ?s1 ?s2 A17.out).mono ?_); (case s1 => exact sR HO_9); (case s2 => exact sL HO_9); rintro e w' ⟨rfl, ⟨nd, rfl⟩⟩; refine ⟨_, rfl, ?_⟩))
      go_ret2
      exact ⟨_, pE, pR HO_9.out, qB HB⟩
     rw [if_pos c9] at H
     have c9b0 : decide (x26_2 < (l0.length : Int)) = true := decide_eq_true c9
     clear c9
     by_cases c10 : x26_2 = a1
     ·rw [if_pos c10] at H
      have c10b0 : (x26_2 == a1) = true := beq_iff_eq.mpr c10
      have c10b1 : (x26_2 != a1) = false := bne_eq_false_iff_eq.mpr c10
      clear c10
      by_cases c11 : x9_2.length < 17592186044416
      rotate_left
      ·rw [if_neg c11] at H
       exact absurd H (by simp)
      rw [if_pos c11] at H
      have LMc11 := aM c11
      clear c11
      obtain ⟨y566, hy566⟩ : ∃ y_ : List Int, y_ = (x9_2 ++ [a2]) := ⟨_, rfl⟩
      replace H : (gradineref19_With.l0 k2 l0 a1 a2 y566 (l0.length : Int) (wrap64 (x26_2 + 1))) = some (r1, r2) := pH hy566 H
      have Ny566 := aM hy566
      clear hy566
      have H' := aM H
      clear H
      go_wp2_with (first | ((with_reducible refine gate_builtin (b := .append) (xs := #[.tmp 32, .tmp 34]) rfl ?_); (try (refine gate_guard (by rfl) ?_; dsimp only)); at_builtin; refine Kd.R_append (Kd.int .i64) (w0 := w) w.heap.size rfl (.tmp 32) (.tmp 34) 22 3 (.int .i64 0) 8 rfl Try.underlying22 info3 rfl (by decide) (by omega) u9 x9_2 a2 [.int .i64 a2] (fun _ => True) (fun _ => False) rfl rfl ?aP (fun _ hk => hk.elim) ?aF ?aO ?aB ?aS ?aL ?_; (case aP => exact rfl); (case aB => exact (qB HB)); (case aF => exact (fun _ _ => trivial)); (case aO => exact (pR HO_9.out)); (case aS => exact (below_size (qB HB))); (case aL => have := LMc11.out; omega); intro v567 w12 ho hb hg hat; rw [← Ny566.out] at ho; replace HB := aM (hb); have HO568 := aM (ho); clear HO_9; clear ho hb hg hat))
      go_roundg k2
      case measure => have := HJ5.out; have := HK2.out; omega
      case rel => exact ⟨(y566), (wrap64 (x26_2 + 1)), (pF), H', ⟨by have := HJ5.out; have := HK2.out; omega⟩, ⟨pR HO568.out⟩, ⟨qB HB⟩⟩
     rw [if_neg c10] at H
     have c10b0 : (x26_2 == a1) = false := beq_eq_false_iff_ne.mpr c10
     have c10b1 : (x26_2 != a1) = true := bne_iff_ne.mpr c10
     by_cases c13 : 0 ≤ x26_2
     rotate_left
     ·rw [if_neg c13] at H
      exact absurd H (by simp)
     rw [if_pos c13] at H
     have c13b0 : decide (0 ≤ x26_2) = true := decide_eq_true c13
     clear c13
     by_cases c14 : x26_2 < (l0.length : Int)
     rotate_left
     ·rw [if_neg c14] at H
      exact absurd H (by simp)
     rw [if_pos c14] at H
     have c14b0 : decide (x26_2 < (l0.length : Int)) = true := decide_eq_true c14
     clear c14
     by_cases c15 : x9_2.length < 17592186044416
     rotate_left
     ·rw [if_neg c15] at H
      exact absurd H (by simp)
     rw [if_pos c15] at H
     have LMc15 := aM c15
     clear c15
     obtain ⟨y570, hy570⟩ : ∃ y_ : List Int, y_ = (x9_2 ++ [rd l0 x26_2]) := ⟨_, rfl⟩
     replace H : (gradineref19_With.l0 k2 l0 a1 a2 y570 (l0.length : Int) (wrap64 (x26_2 + 1))) = some (r1, r2) := pH hy570 H
     have Ny570 := aM hy570
     clear hy570
     have H' := aM H
     clear H
     have p569 : 0 ≤ (x26_2 : Int) := of_decide_eq_true pD
     have q569 : x26_2 < (l0.length : Int) := of_decide_eq_true pD
     obtain ⟨ad569, e569, hx569_0⟩ := Kd.at_int HR0.out x26_2 p569 q569
     cases e569
     replace hx569_0 := (HB.out.cell (World.block_lt_of_cell? w _ hx569_0)).trans hx569_0
     replace p569 := eq_true p569
     replace q569 := eq_true q569
     go_wp2_with (first | ((with_reducible refine gate_builtin (b := .append) (xs := #[.tmp 36, .tmp 41]) rfl ?_); (try (refine gate_guard (by rfl) ?_; dsimp only)); at_builtin; refine Kd.R_append (Kd.int .i64) (w0 := w) w.heap.size rfl (.tmp 36) (.tmp 41) 22 3 (.int .i64 0) 8 rfl Try.underlying22 info3 rfl (by decide) (by omega) u9 x9_2 (rd l0 x26_2) [.int .i64 (rd l0 x26_2)] (fun _ => True) (fun _ => False) rfl rfl ?aP (fun _ hk => hk.elim) ?aF ?aO ?aB ?aS ?aL ?_; (case aP => exact rfl); (case aB => exact (qB HB)); (case aF => exact (fun _ _ => trivial)); (case aO => exact (pR HO_9.out)); (case aS => exact (below_size (qB HB))); (case aL => have := LMc15.out; omega); intro v571 w16 ho hb hg hat; rw [← Ny570.out] at ho; replace HB := aM (hb); have HO572 := aM (ho); clear HO_9; clear ho hb hg hat))
     go_roundg k2
     case measure => have := HJ5.out; have := HK2.out; omega
     case rel => exact ⟨(y570), (wrap64 (x26_2 + 1)), (pF), H', ⟨by have := HJ5.out; have := HK2.out; omega⟩, ⟨pR HO572.out⟩, ⟨qB HB⟩⟩
def gradineref22_number.l0 : Nat → List Int → List Int → Int → Int → Int → Option (Int)
 | 0, _, _, _, _, _ => none
 | k + 1, x0, x1, x5, x8, x9 => if x9 < x8 then (if 0 ≤ x9 then (if x9 < (x0.length : Int) then (if x9 < (x1.length : Int) then (gradineref22_number.l0 k x0 x1 (wrap64 ((wrap64 (x5 * (rd x0 x9))) + (rd x1 x9))) x8 (wrap64 (x9 + 1))) else (none)) else (none)) else (none)) else (some x5)
def gradineref22_number.f (k : Nat) (l0 : List Int) (l1 : List Int) : Option (Int) := gradineref22_number.l0 k l0 l1 0 (l0.length : Int) 0
set_option maxHeartbeats 8000000 in
set_option maxRecDepth 100000 in
theorem gradineref22_number.calls (k : Nat) (A0 : Option Addr) (c0 : Nat) (l0 : List Int) (A1 : Option Addr) (c1 : Nat) (l1 : List Int) (r : Int) (w : World) (hr0 : Kd.C (Kd.int .i64) w A0 l0.length l0) (hc0 : l0.length ≤ c0) (hr1 : Kd.C (Kd.int .i64) w A1 l1.length l1) (hc1 : l1.length ≤ c1) (h : gradineref22_number.f k l0 l1 = some r) :
  Calls Try.prog 59 #[.slice A0 l0.length c0, .slice A1 l1.length c1] w fun e w' => e = .returned (.int .i64 r) ∧ Drawn0 w w' := by
 have HR0 := aM hr0
 have HC0 := aM hc0
 clear hr0 hc0
 have HR1 := aM hr1
 have HC1 := aM hc1
 clear hr1 hc1
 have H : (gradineref22_number.l0 k l0 l1 0 (l0.length : Int) 0) = some r := h
 clear h
 have H' := aM H
 clear H
 go_enter Try.func59, Try.ntmps59
 go_wp2
 repeat (go_quiet (fail); try go_wp2)
 go_loopg [5, 9] k (fun kq v5 v9 w' => ∃ (x5_1 : Int) (x9_1 : Int), v5 = .int .i64 x5_1 ∧ v9 = .int .i64 x9_1 ∧ Aside0 (gradineref22_number.l0 kq l0 l1 x5_1 (l0.length : Int) x9_1 = some r) ∧ Aside0 (kq ≤ k) ∧ Drawn0 w w')
 case atStart => exact ⟨(0), (0), (pF), (pF), H', ⟨Nat.le_refl _⟩, by repeat (first | exact Drawn0.refl _ | apply Drawn0.step)⟩
 case round =>
  clear H'
  try clear c1
  obtain ⟨x5_1, x9_1, rfl, rfl, HA, HK1, ⟨m1, rfl⟩⟩ := hrel
  cases gk with
  | zero => exact absurd HA.out (by simp [gradineref22_number.l0])
  | succ k1 =>
   have H := HA.out
   clear HA
   simp only [gradineref22_number.l0] at H
   by_cases c3 : x9_1 < (l0.length : Int)
   rotate_left
   ·rw [if_neg c3] at H
    have c3b0 : decide (x9_1 < (l0.length : Int)) = false := decide_eq_false c3
    clear c3
    obtain rfl := Option.some.inj H
    go_wp2
    repeat (go_quiet (fail); try go_wp2)
    go_ret
    exact ⟨pF, by repeat (first | exact Drawn0.refl _ | apply Drawn0.step)⟩
   rw [if_pos c3] at H
   have c3b0 : decide (x9_1 < (l0.length : Int)) = true := decide_eq_true c3
   clear c3
   by_cases c4 : 0 ≤ x9_1
   rotate_left
   ·rw [if_neg c4] at H
    exact absurd H (by simp)
   rw [if_pos c4] at H
   have c4b0 : decide (0 ≤ x9_1) = true := decide_eq_true c4
   clear c4
   by_cases c5 : x9_1 < (l0.length : Int)
   rotate_left
   ·rw [if_neg c5] at H
    exact absurd H (by simp)
   rw [if_pos c5] at H
   have c5b0 : decide (x9_1 < (l0.length : Int)) = true := decide_eq_true c5
   clear c5
   by_cases c6 : x9_1 < (l1.length : Int)
   rotate_left
   ·rw [if_neg c6] at H
    exact absurd H (by simp)
   rw [if_pos c6] at H
   have c6b0 : decide (x9_1 < (l1.length : Int)) = true := decide_eq_true c6
   clear c6
   have H' := aM H
   clear H
   have p545 : 0 ≤ (x9_1 : Int) := of_decide_eq_true pD
   have q545 : x9_1 < (l0.length : Int) := of_decide_eq_true pD
   obtain ⟨ad545, e545, hx545_0⟩ := Kd.at_int HR0.out x9_1 p545 q545
   cases e545
   replace p545 := eq_true p545
   replace q545 := eq_true q545
   have p546 : 0 ≤ (x9_1 : Int) := of_decide_eq_true pD
   have q546 : x9_1 < (l1.length : Int) := of_decide_eq_true pD
   obtain ⟨ad546, e546, hx546_0⟩ := Kd.at_int HR1.out x9_1 p546 q546
   cases e546
   replace p546 := eq_true p546
   replace q546 := eq_true q546
   go_wp2
   repeat (go_quiet (fail); try go_wp2)
   go_roundg k1
   case measure => have := HK1.out; omega
   case rel => exact ⟨(wrap64 ((wrap64 (x5_1 * (rd l0 x9_1))) + (rd l1 x9_1))), (wrap64 (x9_1 + 1)), (pF), (pF), H', ⟨by have := HK1.out; omega⟩, by repeat (first | exact Drawn0.refl _ | apply Drawn0.step)⟩
def gradineref22_Take.l0 : Nat → List Int → Int → List Int → List Int → List (List Int) → List Int → Int → Int → Option (List Int × List Int × Int)
 | 0, _, _, _, _, _, _, _, _ => none
 | k + 1, x0, x1, x2, x9, x11, x12, x29, x30 => if x30 < x29 then ((some (([] : List Int) : List Int)).bind fun y581 => (if 0 ≤ x30 then (if x30 < (x11.length : Int) then (if y581.length + (rd_L1 x11 x30).length < 17592186044416 then ((some (y581 ++ (rd_L1 x11 x30) : List Int)).bind fun y585 => (if 0 ≤ x1 then (if x1 < (y585.length : Int) then (if 0 ≤ (rd y585 x1) then (if (rd y585 x1) < (x2.length : Int) then ((gradineref22_number.f k x0 (y585.set (x1 : Int).toNat (rd x2 (rd y585 x1)))).bind fun t591 => (if x12.length < 17592186044416 then (gradineref22_Take.l0 k x0 x1 x2 x9 x11 (x12 ++ [t591]) x29 (wrap64 (x30 + 1))) else (none))) else (none)) else (none)) else (none)) else (none))) else (none)) else (none)) else (none))) else (some (x9, x12, 0))
def gradineref22_Take.f (k : Nat) (l0 : List Int) (a1 : Int) (l2 : List Int) : Option (List Int × List Int × Int) := (gradineref19_With.f k l0 a1 (l2.length : Int)).bind fun bt574 => (if bt574.2 = 0 then ((gradineref20_All.f k bt574.1).bind fun t578 => (gradineref22_Take.l0 k l0 a1 l2 bt574.1 t578 ([] : List Int) (t578.length : Int) 0)) else (some (([] : List Int), ([] : List Int), bt574.2)))
set_option maxHeartbeats 8000000 in
set_option maxRecDepth 100000 in
theorem gradineref22_Take.calls (k : Nat) (A0 : Option Addr) (c0 : Nat) (l0 : List Int) (a1 : Int) (A2 : Option Addr) (c2 : Nat) (l2 : List Int) (r1 : List Int) (r2 : List Int) (r3 : Int) (w : World) (hr0 : Kd.C (Kd.int .i64) w A0 l0.length l0) (hc0 : l0.length ≤ c0) (hr2 : Kd.C (Kd.int .i64) w A2 l2.length l2) (hc2 : l2.length ≤ c2) (h : gradineref22_Take.f k l0 a1 l2 = some (r1, r2, r3)) :
  Calls Try.prog 60 #[.slice A0 l0.length c0, .int .i64 a1, .slice A2 l2.length c2] w fun e w' => ∃ v0_ v1_ : Value, e = .returned (.tuple #[v0_, v1_, .int .i64 r3]) ∧ Kd.R (Kd.int .i64) 3 w' w.heap.size (fun k_ => some k_ ≠ (v1_ : Value).ownBlock) v0_ r1 ∧ Kd.R (Kd.int .i64) 3 w' w.heap.size (fun k_ => some k_ ≠ (v0_ : Value).ownBlock) v1_ r2 ∧ Below w.heap.size w w' := by
 have HR0 := aM hr0
 have HC0 := aM hc0
 clear hr0 hc0
 have HR2 := aM hr2
 have HC2 := aM hc2
 clear hr2 hc2
 have HB := aM (Below.refl w.heap.size w)
 have H : ((gradineref19_With.f k l0 a1 (l2.length : Int)).bind fun bt574 => (if bt574.2 = 0 then ((gradineref20_All.f k bt574.1).bind fun t578 => (gradineref22_Take.l0 k l0 a1 l2 bt574.1 t578 ([] : List Int) (t578.length : Int) 0)) else (some (([] : List Int), ([] : List Int), bt574.2)))) = some (r1, r2, r3) := h
 clear h
 replace H := Option.bind_eq_some_iff.mp H
 obtain ⟨⟨t574, t575⟩, A40, H⟩ := H
 try dsimp only at H
 have A4 := aM A40
 clear A40
 by_cases c5 : t575 = 0
 rotate_left
 ·rw [if_neg c5] at H
  have c5b0 : (t575 == 0) = false := beq_eq_false_iff_ne.mpr c5
  have c5b1 : (t575 != 0) = true := bne_iff_ne.mpr c5
  simp only [Option.some.injEq, Prod.mk.injEq] at H
  obtain ⟨rfl, rfl, rfl⟩ := H
  go_enter Try.func60, Try.ntmps60
  go_wp2_with (first | ((with_reducible refine gate_callee (f := 66) rfl ?_); refine goesL_ (some 20) rfl rfl Try.func66 (by kernel_rfl) rfl #[.slice A0 l0.length c0, .int .i64 a1, .int .i64 (l2.length : Int)] rfl pA ?_; (with_reducible refine (gradineref19_With.calls k _ _ l0 a1 (l2.length : Int) t574 t575 _ ?s1 ?s2 A4.out).mono ?_); (case s1 => exact pC HR0.out); (case s2 => exact HC0.out); rintro e w29 ⟨v576, rfl, ho0, hb⟩; refine ⟨_, rfl, ?_⟩; have HO577 := aM (Kd.R_lower ho0 (below_size (qB HB))); replace HB := bS (qB HB) hb; (try clear hb); (try clear hk); (try clear hi); (try clear ho0)))
  go_ret3
  exact ⟨_, _, pE, pN, pN, qB HB⟩
 rw [if_pos c5] at H
 have c5b0 : (t575 == 0) = true := beq_iff_eq.mpr c5
 have c5b1 : (t575 != 0) = false := bne_eq_false_iff_eq.mpr c5
 clear c5
 replace H := Option.bind_eq_some_iff.mp H
 obtain ⟨t578, A60, H⟩ := H
 try dsimp only at H
 have A6 := aM A60
 clear A60
 have H' := aM H
 clear H
 go_enter Try.func60, Try.ntmps60
 go_wp2_with (first | ((with_reducible refine gate_callee (f := 66) rfl ?_); refine goesL_ (some 20) rfl rfl Try.func66 (by kernel_rfl) rfl #[.slice A0 l0.length c0, .int .i64 a1, .int .i64 (l2.length : Int)] rfl pA ?_; (with_reducible refine (gradineref19_With.calls k _ _ l0 a1 (l2.length : Int) t574 t575 _ ?s1 ?s2 A4.out).mono ?_); (case s1 => exact pC HR0.out); (case s2 => exact HC0.out); rintro e w7 ⟨v576, rfl, ho0, hb⟩; refine ⟨_, rfl, ?_⟩; have HO577 := aM (Kd.R_lower ho0 (below_size (qB HB))); replace HB := bS (qB HB) hb; (try clear hb); (try clear hk); (try clear hi); (try clear ho0); obtain ⟨Ao8, co8, eo8⟩ := Kd.R_slice HO577.out; subst eo8) | ((with_reducible refine gate_callee (f := 38) rfl ?_); refine goesL_ (some 27) rfl rfl Try.func38 (by kernel_rfl) rfl #[.slice Ao8 t574.length co8] rfl pA ?_; (with_reducible refine (gradineref20_All.calls k _ _ t574 t578 _ ?s1 ?s2 A6.out).mono ?_); (case s1 => exact sR HO577); (case s2 => exact sL HO577); rintro e w9 ⟨v579, rfl, ho0, hb⟩; refine ⟨_, rfl, ?_⟩; have HO580 := aM (Kd.N_lower (Kd.N_mono (ok' := fun k_ => some k_ ≠ (.slice Ao8 t574.length co8 : Value).ownBlock) ho0 (fun k_ hk_ => (Kd.fresh' (Kd.R_lt (pR HO577.out)) k_ hk_))) (below_size (qB HB))); replace HO577 := bR HO577 hb; replace HB := bS (qB HB) hb; (try clear hb); (try clear hk); (try clear hi); (try clear ho0); obtain ⟨Ao10, co10, eo10⟩ := Kd.N_slice HO580.out; subst eo10))
 go_loopg [12, 30] k (fun kq v12 v30 w' => ∃ (x9_1 : List Int) (x12_1 : List Int) (x30_1 : Int), v30 = .int .i64 x30_1 ∧ Aside0 (gradineref22_Take.l0 kq l0 a1 l2 x9_1 t578 x12_1 (t578.length : Int) x30_1 = some (r1, r2, r3)) ∧ Aside0 (kq ≤ k) ∧ Aside0 (Kd.R (Kd.int .i64) 3 w' w.heap.size (fun k_ => some k_ ≠ (v12 : Value).ownBlock) (.slice Ao8 t574.length co8) x9_1) ∧ Aside0 (Kd.N (Kd.slice 3 (Kd.int .i64)) 22 w' w.heap.size (fun k_ => some k_ ≠ ((.slice Ao8 t574.length co8) : Value).ownBlock ∧ some k_ ≠ (v12 : Value).ownBlock) (.slice Ao10 t578.length co10) t578) ∧ Aside0 (Kd.R (Kd.int .i64) 3 w' w.heap.size (fun k_ => some k_ ≠ ((.slice Ao8 t574.length co8) : Value).ownBlock) v12 x12_1) ∧ Aside0 (Below w.heap.size w w'))
 case atStart => exact ⟨(t574), (([] : List Int)), (0), (pF), H', ⟨Nat.le_refl _⟩, ⟨by (with_reducible repeat (first | apply rA | apply rN | apply rD)); exact Kd.R_mono HO577.out (fun _ hk => (by simp [Value.ownBlock]))⟩, ⟨by (with_reducible repeat (first | apply Kd.N_alloc | apply Kd.N_drewN | apply Kd.N_drew)); exact Kd.N_mono HO580.out (fun _ hk => ⟨hk, (by simp [Value.ownBlock])⟩)⟩, ⟨pN⟩, ⟨qB HB⟩⟩
 case round =>
  clear H'
  try clear c2
  try clear c5b0
  try clear c5b1
  obtain ⟨x9_1, x12_1, x30_1, rfl, HA, HK1, HO_9, HO_11, HO_12, HB⟩ := hrel
  have hl9_1 := (Kd.R_reads' HO_9.out).1
  rw [hl9_1] at HO_9
  (try simp only [hl9_1])
  (try simp only [hl9_1] at HO_11)
  (try simp only [hl9_1] at HO_12)
  cases gk with
  | zero => exact absurd HA.out (by simp [gradineref22_Take.l0])
  | succ k1 =>
   have H := HA.out
   clear HA
   simp only [gradineref22_Take.l0] at H
   by_cases c11 : x30_1 < (t578.length : Int)
   rotate_left
   ·rw [if_neg c11] at H
    have c11b0 : decide (x30_1 < (t578.length : Int)) = false := decide_eq_false c11
    (try simp only [hl9_1] at c11b0)
    clear c11
    simp only [Option.some.injEq, Prod.mk.injEq] at H
    obtain ⟨rfl, rfl, rfl⟩ := H
    go_wp2
    go_ret3
    exact ⟨_, _, pE, pR HO_9.out, pR HO_12.out, qB HB⟩
   rw [if_pos c11] at H
   have c11b0 : decide (x30_1 < (t578.length : Int)) = true := decide_eq_true c11
   (try simp only [hl9_1] at c11b0)
   clear c11
   obtain ⟨y581, hy581⟩ : ∃ y_ : List Int, y_ = (([] : List Int)) := ⟨_, rfl⟩
   replace H : (if 0 ≤ x30_1 then (if x30_1 < (t578.length : Int) then (if y581.length + (rd_L1 t578 x30_1).length < 17592186044416 then ((some (y581 ++ (rd_L1 t578 x30_1) : List Int)).bind fun y585 => (if 0 ≤ a1 then (if a1 < (y585.length : Int) then (if 0 ≤ (rd y585 a1) then (if (rd y585 a1) < (l2.length : Int) then ((gradineref22_number.f k1 l0 (y585.set (a1 : Int).toNat (rd l2 (rd y585 a1)))).bind fun t591 => (if x12_1.length < 17592186044416 then (gradineref22_Take.l0 k1 l0 a1 l2 x9_1 t578 (x12_1 ++ [t591]) (t578.length : Int) (wrap64 (x30_1 + 1))) else (none))) else (none)) else (none)) else (none)) else (none))) else (none)) else (none)) else (none)) = some (r1, r2, r3) := pH hy581 H
   have Ny581 := aM hy581
   clear hy581
   by_cases c12 : 0 ≤ x30_1
   rotate_left
   ·rw [if_neg c12] at H
    exact absurd H (by simp)
   rw [if_pos c12] at H
   have c12b0 : decide (0 ≤ x30_1) = true := decide_eq_true c12
   clear c12
   by_cases c13 : x30_1 < (t578.length : Int)
   rotate_left
   ·rw [if_neg c13] at H
    exact absurd H (by simp)
   rw [if_pos c13] at H
   have c13b0 : decide (x30_1 < (t578.length : Int)) = true := decide_eq_true c13
   (try simp only [hl9_1] at c13b0)
   clear c13
   by_cases c14 : y581.length + (rd_L1 t578 x30_1).length < 17592186044416
   rotate_left
   ·rw [if_neg c14] at H
    exact absurd H (by simp)
   rw [if_pos c14] at H
   have LMc14 := aM c14
   clear c14
   obtain ⟨y585, hy585⟩ : ∃ y_ : List Int, y_ = (y581 ++ (rd_L1 t578 x30_1)) := ⟨_, rfl⟩
   replace H : (if 0 ≤ a1 then (if a1 < (y585.length : Int) then (if 0 ≤ (rd y585 a1) then (if (rd y585 a1) < (l2.length : Int) then ((gradineref22_number.f k1 l0 (y585.set (a1 : Int).toNat (rd l2 (rd y585 a1)))).bind fun t591 => (if x12_1.length < 17592186044416 then (gradineref22_Take.l0 k1 l0 a1 l2 x9_1 t578 (x12_1 ++ [t591]) (t578.length : Int) (wrap64 (x30_1 + 1))) else (none))) else (none)) else (none)) else (none)) else (none)) = some (r1, r2, r3) := pH hy585 H
   have Ny585 := aM hy585
   clear hy585
   by_cases c15 : 0 ≤ a1
   rotate_left
   ·rw [if_neg c15] at H
    exact absurd H (by simp)
   rw [if_pos c15] at H
   have c15b0 : decide (0 ≤ a1) = true := decide_eq_true c15
   clear c15
   by_cases c16 : a1 < (y585.length : Int)
   rotate_left
   ·rw [if_neg c16] at H
    exact absurd H (by simp)
   rw [if_pos c16] at H
   have c16b0 : decide (a1 < (y585.length : Int)) = true := decide_eq_true c16
   (try simp only [hl9_1] at c16b0)
   clear c16
   by_cases c17 : 0 ≤ (rd y585 a1)
   rotate_left
   ·rw [if_neg c17] at H
    exact absurd H (by simp)
   rw [if_pos c17] at H
   have c17b0 : decide (0 ≤ (rd y585 a1)) = true := decide_eq_true c17
   clear c17
   by_cases c18 : (rd y585 a1) < (l2.length : Int)
   rotate_left
   ·rw [if_neg c18] at H
    exact absurd H (by simp)
   rw [if_pos c18] at H
   have c18b0 : decide ((rd y585 a1) < (l2.length : Int)) = true := decide_eq_true c18
   (try simp only [hl9_1] at c18b0)
   clear c18
   obtain ⟨y590, hy590⟩ : ∃ y_ : List Int, y_ = (y585.set (a1 : Int).toNat (rd l2 (rd y585 a1))) := ⟨_, rfl⟩
   replace H : ((gradineref22_number.f k1 l0 y590).bind fun t591 => (if x12_1.length < 17592186044416 then (gradineref22_Take.l0 k1 l0 a1 l2 x9_1 t578 (x12_1 ++ [t591]) (t578.length : Int) (wrap64 (x30_1 + 1))) else (none))) = some (r1, r2, r3) := pH hy590 H
   have Ny590 := aM hy590
   clear hy590
   replace H := Option.bind_eq_some_iff.mp H
   obtain ⟨t591, A200, H⟩ := H
   try dsimp only at H
   have A20 := aM A200
   clear A200
   by_cases c21 : x12_1.length < 17592186044416
   rotate_left
   ·rw [if_neg c21] at H
    exact absurd H (by simp)
   rw [if_pos c21] at H
   have LMc21 := aM c21
   clear c21
   obtain ⟨y592, hy592⟩ : ∃ y_ : List Int, y_ = (x12_1 ++ [t591]) := ⟨_, rfl⟩
   replace H : (gradineref22_Take.l0 k1 l0 a1 l2 x9_1 t578 y592 (t578.length : Int) (wrap64 (x30_1 + 1))) = some (r1, r2, r3) := pH hy592 H
   have Ny592 := aM hy592
   clear hy592
   have H' := aM H
   clear H
   go_wp2_with (first | ((with_reducible refine gate_dst (N := 33) rfl ?_); refine Kd.R_lit (Kd.int .i64) _ 3 ?hg (N := 33) ?hd (xs := ([] : List Int)) (inner := []) (ok := fun _ => True) (okp := fun _ => True) ?hr ?hp (fun _ hk => hk) trivial (Below.refl _ _) (Nat.le_refl _) (by simp) ?_; (case hd => rfl); (case hg => rfl); (case hr => first | (go_simp; done) | (go_simp; rfl)); (case hp => exact (Reps.none _ _)); intro v582 w22 ho23 hb hg_ hnew_; clear hg_ hnew_; (first | rw [← Ny581.out] at ho23 | (simp only [Int.reduceToNat] at ho23; rw [← Ny581.out] at ho23)); replace HO_11 := aM (Kd.N_elder' (by (with_reducible repeat (first | apply Kd.N_alloc | apply Kd.N_drewN | apply Kd.N_drew)); exact HO_11.out) (Kd.R_base ho23) hb); have HO583 := aM (Kd.R_lower (Kd.R_new' (Kd.R_new' ho23 (Kd.R_lt (pR HO_9.out))) (Kd.R_lt (pR HO_12.out))) (below_size (qB HB))); replace HO_9 := eR HO_9 ho23 hb; replace HO_12 := eR HO_12 ho23 hb; replace HB := bS (qB HB) hb; clear hb ho23; have p584 : 0 ≤ (x30_1 : Int) := of_decide_eq_true pD; have q584 : x30_1 < (t578.length : Int) := of_decide_eq_true pD; obtain ⟨ad584, A584_0, c584_0, e584, hx584_0, hl584_0, hi584_0⟩ := at_L1 (Kd.N_reads' HO_11.out).2.2 x30_1 p584 q584; cases e584; obtain ⟨ce584, hce584, hMe584, hcc584⟩ := Kd.N_get HO_11.out [] x30_1 p584 (by first | exact q584 | exact of_decide_eq_true pD | (have e_ := (Kd.N_reads' HO_11.out).1; omega)); obtain ⟨ua584_0, uc584_0, rfl, ul584_0, ge584_0⟩ := Kd.FK_slice_open hMe584; have hv584_0 := hcc584 0 _ rfl; rw [Nat.add_zero, show ((Kd.slice 3 (Kd.int .i64))).sz = 1 from rfl, Nat.mul_one] at hv584_0; replace hv584_0 := Option.some.inj (hv584_0.symm.trans hx584_0); injection hv584_0 with hva_ hvn_ hvc_; rw [hva_] at ge584_0; rw [hvc_] at ul584_0; have HL584_0 := aM (show Kd.V (Kd.int .i64) 3 _ w.heap.size _ _ (rd_L1 t578 x30_1) from Kd.V_mk ul584_0 ge584_0); clear hva_ hvn_ hvc_ ge584_0 ul584_0; clear hcc584 hce584; have HR584_0 := aM hi584_0; have HC584_0 := aM hl584_0; clear hi584_0 hl584_0; replace p584 := eq_true p584; replace q584 := eq_true q584) | ((with_reducible refine gate_builtin (b := .append) (xs := #[.tmp 33, .tmp 37]) rfl ?_); at_builtin; refine Kd.R_append_rows (Kd.int .i64) (w0 := w) w.heap.size rfl (.tmp 33) (.tmp 37) 22 3 (.int .i64 0) 8 rfl Try.underlying22 info3 rfl (by decide) (by omega) v582 y581 (rd_L1 t578 x30_1) _ _ _ (fun k_ => some k_ ≠ (.slice Ao8 x9_1.length co8 : Value).ownBlock ∧ some k_ ≠ (u12 : Value).ownBlock) (fun _ => False) rfl rfl ?aO ?aR (fun _ _ h => h) (fun _ h => h.elim) ?aF ?aB ?aS ?aL ?_; (case aR => repeat (first | exact (by repeat (first | (with_reducible exact HR584_0.out) | (with_reducible refine Kd.C_alloc ?_ _) | (with_reducible refine Kd.C_drewN ?_ _) | (with_reducible refine Kd.C_drew ?_) | exact HR584_0.out)) | (with_reducible refine Kd.C_alloc ?_ _) | (with_reducible refine Kd.C_drewN ?_ _) | (with_reducible refine Kd.C_drew ?_))); (case aB => exact (qB HB)); (case aF => exact (fun k_ hk => ⟨Kd.fresh' (Kd.R_lt (pR HO_9.out)) k_ hk, Kd.fresh' (Kd.R_lt (pR HO_12.out)) k_ hk⟩)); (case aO => exact (by (with_reducible repeat (first | apply rA | apply rN | apply rD)); exact Kd.R_mono HO583.out (fun _ hk => ⟨hk.1.2, hk.2⟩))); (case aS => exact (below_size (qB HB))); (case aL => have := LMc14.out; omega); intro v586 w24 ho hb hg hat; rw [← Ny585.out] at ho; replace HO_9 := aM (Kd.R_after (ok := (fun k_ => some k_ ≠ (u12 : Value).ownBlock)) (pR HO_9.out) hg hat); replace HO_11 := aM (Kd.N_afterv (ok := (fun k_ => some k_ ≠ (.slice Ao8 x9_1.length co8 : Value).ownBlock ∧ some k_ ≠ (u12 : Value).ownBlock)) (by (with_reducible repeat (first | apply Kd.N_alloc | apply Kd.N_drewN | apply Kd.N_drew)); exact HO_11.out) hg hat); replace HO_12 := aM (Kd.R_after (ok := (fun k_ => some k_ ≠ (.slice Ao8 x9_1.length co8 : Value).ownBlock)) (pR HO_12.out) hg hat); replace HL584_0 := aM (Kd.V_afterv (ok := (fun k_ => some k_ ≠ (.slice Ao8 x9_1.length co8 : Value).ownBlock ∧ some k_ ≠ (.slice (some ad584) t578.length co10 : Value).ownBlock ∧ some k_ ≠ (u12 : Value).ownBlock)) (by (with_reducible repeat (first | apply Kd.V_alloc | apply Kd.V_drewN | apply Kd.V_drew)); exact Kd.V_mono HL584_0.out (fun _ hk => ⟨⟨hk.1.1.1, ⟨hk.2, hk.1.1.2⟩⟩, hk.1.2⟩)) hg hat); replace HB := aM (hb); have HO587 := aM (ho); clear HO583; clear ho hb hg hat; obtain ⟨Ao25, co25, eo25⟩ := Kd.R_slice HO587.out; subst eo25; have p588 : 0 ≤ (a1 : Int) := of_decide_eq_true pD; have q588 : a1 < (y585.length : Int) := of_decide_eq_true pD; obtain ⟨ad588, e588, hx588_0⟩ := Kd.at_int (Kd.R_reads' HO587.out).2.2 a1 p588 q588; cases e588; replace p588 := eq_true p588; replace q588 := eq_true q588; have p589 : 0 ≤ ((rd y585 a1) : Int) := of_decide_eq_true pD; have q589 : (rd y585 a1) < (l2.length : Int) := of_decide_eq_true pD; obtain ⟨ad589, e589, hx589_0⟩ := Kd.at_int HR2.out (rd y585 a1) p589 q589; cases e589; replace hx589_0 := (HB.out.cell (World.block_lt_of_cell? w _ hx589_0)).trans hx589_0; replace p589 := eq_true p589; replace q589 := eq_true q589; have p19 : 0 ≤ (a1 : Int) := of_decide_eq_true pD; have q19 : (a1 : Int) < ((y585.length : Int) : Int) := of_decide_eq_true pD; obtain ⟨go19, co19, eo19, gb19, gl19, cl19, HG19⟩ := Kd.R_form HO587.out (by omega); (first | cases eo19 | (injection eo19 with ea_ en_ ec_; (first | subst ea_ | (injection ea_ with ea_; subst ea_)); subst ec_; clear en_)); have GB19 := aM gb19; have GG19 := aM HG19; clear gb19 gl19 HG19; (first | simp only [add_plain] at hx588_0 | skip); obtain ⟨hx19_0, hf19_0⟩ := Kd.R_celln 0 HO587.out (a1 : Int) p19 q19; replace p19 := eq_true p19; replace q19 := eq_true q19; obtain ⟨hy26_, hz26_⟩ := Kd.R_celln 0 HO587.out (a1 : Int) (of_decide_eq_true pD) (of_decide_eq_true pD); have HP26 := Kd.R_putg HO587.out (a1 : Int) (rd l2 (rd y585 a1))) | ((with_reducible refine gate_store (t := 3) (p := 48) rfl ?_); refine store_event (t := 3) (p := 48) (v := ?vo_w27) (w1 := (w24.setCell ⟨go19, (a1 : Int).toNat, none⟩ (.int .i64 (rd l2 (rd y585 a1))))) ?hg ?ho ?hn ?hr ?_; (case ho => rfl); (case hg => rfl); (case hn => rfl); (case hr => first | (go_simp; done) | (go_simp; rfl)); intro w27 hw; have hg : w24.grownBy w27 (some go19) := (by rw [hw]; exact HP26.2); have hp_ : Kd.R (Kd.int .i64) 3 w27 w.heap.size (fun k_ => some k_ ≠ (.slice Ao8 x9_1.length co8 : Value).ownBlock ∧ some k_ ≠ (u12 : Value).ownBlock) (.slice (some ⟨go19, 0, none⟩) y585.length co25) y590 := (by rw [hw, Ny590.out]; exact HP26.1); clear HP26; replace HO_9 := aM (Kd.R_after (v := (.slice (some ⟨go19, 0, none⟩) y585.length co25)) (v1 := (.slice (some ⟨go19, 0, none⟩) y585.length co25)) (ok := (fun k_ => some k_ ≠ (u12 : Value).ownBlock)) (pR HO_9.out) hg (.inl rfl)); replace HO_11 := aM (Kd.N_afterv (v := (.slice (some ⟨go19, 0, none⟩) y585.length co25)) (v1 := (.slice (some ⟨go19, 0, none⟩) y585.length co25)) (ok := (fun k_ => some k_ ≠ (.slice Ao8 x9_1.length co8 : Value).ownBlock ∧ some k_ ≠ (u12 : Value).ownBlock)) (by (with_reducible repeat (first | apply Kd.N_alloc | apply Kd.N_drewN | apply Kd.N_drew)); exact HO_11.out) hg (.inl rfl)); replace HO_12 := aM (Kd.R_after (v := (.slice (some ⟨go19, 0, none⟩) y585.length co25)) (v1 := (.slice (some ⟨go19, 0, none⟩) y585.length co25)) (ok := (fun k_ => some k_ ≠ (.slice Ao8 x9_1.length co8 : Value).ownBlock)) (pR HO_12.out) hg (.inl rfl)); replace HL584_0 := aM (Kd.V_afterv (v := (.slice (some ⟨go19, 0, none⟩) y585.length co25)) (v1 := (.slice (some ⟨go19, 0, none⟩) y585.length co25)) (ok := (fun k_ => some k_ ≠ (.slice Ao8 x9_1.length co8 : Value).ownBlock ∧ some k_ ≠ (.slice (some ad584) t578.length co10 : Value).ownBlock ∧ some k_ ≠ (u12 : Value).ownBlock)) (pV HL584_0.out) hg (.inl rfl)); replace HO587 := aM (hp_); replace HB := aM ((by rw [hw]; exact below_set (HB.out) GB19.out : Below w.heap.size w w27)); clear hg hw hp_) | ((with_reducible refine gate_callee (f := 59) rfl ?_); refine goesL_ (some 52) rfl rfl Try.func59 (by kernel_rfl) rfl #[.slice A0 l0.length c0, .slice (some ⟨go19, 0, none⟩) y590.length co25] rfl (by (try simp only [List.map_toArray, List.map_cons, List.map_nil]); first | done | (rw [show y590.length = y585.length from (Kd.R_reads' HO587.out).1.symm] <;> rfl) | rfl | (simp only [List.length_drop, List.length_take]; rfl)) ?_; (with_reducible refine (gradineref22_number.calls k1 _ _ l0 _ _ y590 t591 _ ?s1 ?s2 ?s3 ?s4 A20.out).mono ?_); (case s1 => exact sC HR0 HB); (case s2 => exact HC0.out); (case s3 => exact sR HO587); (case s4 => rw [show y590.length = y585.length from (Kd.R_reads' HO587.out).1.symm]; exact sL HO587); rintro e w' ⟨rfl, ⟨nd, rfl⟩⟩; refine ⟨_, rfl, ?_⟩) | ((with_reducible refine gate_builtin (b := .append) (xs := #[.tmp 49, .tmp 53]) rfl ?_); at_builtin; refine Kd.R_append (Kd.int .i64) (w0 := w) w.heap.size rfl (.tmp 49) (.tmp 53) 22 3 (.int .i64 0) 8 rfl Try.underlying22 info3 rfl (by decide) (by omega) u12 x12_1 t591 [.int .i64 t591] (fun k_ => some k_ ≠ (.slice Ao8 x9_1.length co8 : Value).ownBlock ∧ some k_ ≠ (.slice (some ⟨go19, 0, none⟩) y585.length co25 : Value).ownBlock) (fun _ => False) rfl rfl ?aP (fun _ hk => hk.elim) ?aF ?aO ?aB ?aS ?aL ?_; (case aP => exact rfl); (case aB => exact (qB HB)); (case aF => exact (fun k_ hk => ⟨Kd.fresh' (Kd.R_lt (pR HO_9.out)) k_ hk, Kd.fresh' (Kd.R_lt (pR HO587.out)) k_ hk⟩)); (case aO => exact (pR HO_12.out)); (case aS => exact (below_size (qB HB))); (case aL => have := LMc21.out; omega); intro v593 w28 ho hb hg hat; rw [← Ny592.out] at ho; replace HO_9 := aM (Kd.R_after (ok := (fun k_ => some k_ ≠ (.slice (some ⟨go19, 0, none⟩) y585.length co25 : Value).ownBlock)) (by (with_reducible repeat (first | apply rA | apply rN | apply rD)); exact Kd.R_mono HO_9.out (fun _ hk => ⟨hk.2, hk.1⟩)) hg hat); replace HO_11 := aM (Kd.N_afterv (ok := (fun k_ => some k_ ≠ (.slice Ao8 x9_1.length co8 : Value).ownBlock ∧ some k_ ≠ (.slice (some ⟨go19, 0, none⟩) y585.length co25 : Value).ownBlock)) (by (with_reducible repeat (first | apply Kd.N_alloc | apply Kd.N_drewN | apply Kd.N_drew)); exact Kd.N_mono HO_11.out (fun _ hk => ⟨⟨hk.1.1, hk.2⟩, hk.1.2⟩)) hg hat); replace HL584_0 := aM (Kd.V_afterv (ok := (fun k_ => some k_ ≠ (.slice Ao8 x9_1.length co8 : Value).ownBlock ∧ some k_ ≠ (.slice (some ad584) t578.length co10 : Value).ownBlock ∧ some k_ ≠ (.slice (some ⟨go19, 0, none⟩) y585.length co25 : Value).ownBlock)) (by (with_reducible repeat (first | apply Kd.V_alloc | apply Kd.V_drewN | apply Kd.V_drew)); exact Kd.V_mono HL584_0.out (fun _ hk => ⟨⟨hk.1.1, ⟨hk.1.2.1, hk.2⟩⟩, hk.1.2.2⟩)) hg hat); replace HO587 := aM (Kd.R_after (ok := (fun k_ => some k_ ≠ (.slice Ao8 x9_1.length co8 : Value).ownBlock)) (pR HO587.out) hg hat); replace HB := aM (hb); have HO594 := aM (ho); clear HO_12; clear ho hb hg hat))
   (try simp only [← hl9_1])
   go_roundg k1
   case measure => have := HK1.out; omega
   case rel => exact ⟨(x9_1), (y592), (wrap64 (x30_1 + 1)), (pF), H', ⟨by have := HK1.out; omega⟩, ⟨by (try simp only [hl9_1]); (with_reducible repeat (first | apply rA | apply rN | apply rD)); exact Kd.R_mono HO_9.out (fun _ hk => hk.2)⟩, ⟨by (try simp only [hl9_1]); (with_reducible repeat (first | apply Kd.N_alloc | apply Kd.N_drewN | apply Kd.N_drew)); exact Kd.N_mono HO_11.out (fun _ hk => ⟨hk.1.1, hk.2⟩)⟩, ⟨by (try simp only [hl9_1]); (with_reducible repeat (first | apply rA | apply rN | apply rD)); exact Kd.R_mono HO594.out (fun _ hk => hk.1)⟩, ⟨qB HB⟩⟩
mutual
def gradineref22_Flip.j0 : Nat → List Int → Int → Bool → Option (List Int × List Int × Int)
 | 0, _, _, _ => none
 | k + 1, x0, x1, x16 => if x16 = true then (some (([] : List Int), ([] : List Int), 10)) else (if 0 ≤ x1 then (if x1 < (x0.length : Int) then (gradineref22_Flip.l0 k x0 x1 ([] : List Int) (rd x0 x1) 0) else (none)) else (none))
def gradineref22_Flip.l0 : Nat → List Int → Int → List Int → Int → Int → Option (List Int × List Int × Int)
 | 0, _, _, _, _, _ => none
 | k + 1, x0, x1, x7, x20, x21 => if x21 < x20 then (if 0 ≤ x1 then (if x1 < (x0.length : Int) then (if x7.length < 17592186044416 then (gradineref22_Flip.l0 k x0 x1 (x7 ++ [wrap64 ((wrap64 ((rd x0 x1) - 1)) - x21)]) x20 (wrap64 (x21 + 1))) else (none)) else (none)) else (none)) else ((gradineref22_Take.f k x0 x1 x7).bind fun bt688 => (some (bt688.1, bt688.2.1, bt688.2.2)))
end
def gradineref22_Flip.f (k : Nat) (l0 : List Int) (a1 : Int) : Option (List Int × List Int × Int) := if a1 < 0 then (gradineref22_Flip.j0 k l0 a1 true) else (gradineref22_Flip.j0 k l0 a1 (decide (a1 ≥ (l0.length : Int))))
set_option maxHeartbeats 8000000 in
set_option maxRecDepth 100000 in
theorem gradineref22_Flip.calls (k : Nat) (A0 : Option Addr) (c0 : Nat) (l0 : List Int) (a1 : Int) (r1 : List Int) (r2 : List Int) (r3 : Int) (w : World) (hr0 : Kd.C (Kd.int .i64) w A0 l0.length l0) (hc0 : l0.length ≤ c0) (h : gradineref22_Flip.f k l0 a1 = some (r1, r2, r3)) :
  Calls Try.prog 52 #[.slice A0 l0.length c0, .int .i64 a1] w fun e w' => ∃ v0_ v1_ : Value, e = .returned (.tuple #[v0_, v1_, .int .i64 r3]) ∧ Kd.R (Kd.int .i64) 3 w' w.heap.size (fun k_ => some k_ ≠ (v1_ : Value).ownBlock) v0_ r1 ∧ Kd.R (Kd.int .i64) 3 w' w.heap.size (fun k_ => some k_ ≠ (v0_ : Value).ownBlock) v1_ r2 ∧ Below w.heap.size w w' := by
 have HR0 := aM hr0
 have HC0 := aM hc0
 clear hr0 hc0
 have HB := aM (Below.refl w.heap.size w)
 have H : (if a1 < 0 then (gradineref22_Flip.j0 k l0 a1 true) else (gradineref22_Flip.j0 k l0 a1 (decide (a1 ≥ (l0.length : Int))))) = some (r1, r2, r3) := h
 clear h
 have HC3 := aM H
 clear H
 go_enter Try.func52, Try.ntmps52
 go_upto_region 1 with (fail)
 go_cut [16] (fun v16 wc => ∃ (kq : Nat) (x16_2 : Bool), v16 = .bool x16_2 ∧ Aside0 (gradineref22_Flip.j0 kq l0 a1 x16_2 = some (r1, r2, r3)) ∧ Aside0 (kq ≤ k) ∧ Aside0 (Below w.heap.size w wc))
 case first =>
  have H := HC3.out
  clear HC3
  by_cases c4 : a1 < 0
  ·rw [if_pos c4] at H
   have c4b0 : decide (a1 < 0) = true := decide_eq_true c4
   clear c4
   (first | rw [c4b0] | (simp only [i64_w, i32_w]; rw [c4b0]) | skip)
   have H' := aM H
   clear H
   go_wp2
   go_meet
   case rel => exact ⟨_, (true), (pF), H', ⟨by first | omega | exact Nat.le_refl _⟩, ⟨qB HB⟩⟩
  rw [if_neg c4] at H
  have c4b0 : decide (a1 < 0) = false := decide_eq_false c4
  clear c4
  (first | rw [c4b0] | (simp only [i64_w, i32_w]; rw [c4b0]) | skip)
  have H' := aM H
  clear H
  go_wp2
  go_meet
  case rel => exact ⟨_, (decide (a1 ≥ (l0.length : Int))), (pF), H', ⟨by first | omega | exact Nat.le_refl _⟩, ⟨qB HB⟩⟩
 case rest =>
  clear HC3
  obtain ⟨kq, x16_2, rfl, HA, HJ2, HB⟩ := hcut
  cases kq with
  | zero => exact absurd HA.out (by simp [gradineref22_Flip.j0])
  | succ kj2 =>
   have H := HA.out
   clear HA
   simp only [gradineref22_Flip.j0] at H
   by_cases c5 : x16_2 = true
   ·subst c5
    rw [if_pos rfl] at H
    simp only [Option.some.injEq, Prod.mk.injEq] at H
    obtain ⟨rfl, rfl, rfl⟩ := H
    go_wp2
    go_ret3
    exact ⟨_, _, pE, pN, pN, qB HB⟩
   replace c5 := Bool.eq_false_iff.mpr c5
   subst c5
   rw [if_neg (show ¬ (false = true) by decide)] at H
   by_cases c6 : 0 ≤ a1
   rotate_left
   ·rw [if_neg c6] at H
    exact absurd H (by simp)
   rw [if_pos c6] at H
   have c6b0 : decide (0 ≤ a1) = true := decide_eq_true c6
   clear c6
   by_cases c7 : a1 < (l0.length : Int)
   rotate_left
   ·rw [if_neg c7] at H
    exact absurd H (by simp)
   rw [if_pos c7] at H
   have c7b0 : decide (a1 < (l0.length : Int)) = true := decide_eq_true c7
   clear c7
   have H' := aM H
   clear H
   have p683 : 0 ≤ (a1 : Int) := of_decide_eq_true pD
   have q683 : a1 < (l0.length : Int) := of_decide_eq_true pD
   obtain ⟨ad683, e683, hx683_0⟩ := Kd.at_int HR0.out a1 p683 q683
   cases e683
   replace hx683_0 := (HB.out.cell (World.block_lt_of_cell? w _ hx683_0)).trans hx683_0
   replace p683 := eq_true p683
   replace q683 := eq_true q683
   go_wp2
   go_loopg [7, 21] kj2 (fun kq v7 v21 w' => ∃ (x7_2 : List Int) (x21_2 : Int), v21 = .int .i64 x21_2 ∧ Aside0 (gradineref22_Flip.l0 kq l0 a1 x7_2 (rd l0 a1) x21_2 = some (r1, r2, r3)) ∧ Aside0 (kq ≤ kj2) ∧ Aside0 (Kd.R (Kd.int .i64) 3 w' w.heap.size (fun _ => True) v7 x7_2) ∧ Aside0 (Below w.heap.size w w'))
   case atStart => exact ⟨(([] : List Int)), (0), (pF), H', ⟨Nat.le_refl _⟩, ⟨pN⟩, ⟨qB HB⟩⟩
   case round =>
    clear H'
    try clear c5
    try clear c6b0
    try clear c7b0
    try clear hx683_0
    try clear p683
    try clear q683
    obtain ⟨x7_2, x21_2, rfl, HA, HK2, HO_7, HB⟩ := hrel
    cases gk with
    | zero => exact absurd HA.out (by simp [gradineref22_Flip.l0])
    | succ k2 =>
     have H := HA.out
     clear HA
     simp only [gradineref22_Flip.l0] at H
     by_cases c8 : x21_2 < (rd l0 a1)
     rotate_left
     ·rw [if_neg c8] at H
      have c8b0 : decide (x21_2 < (rd l0 a1)) = false := decide_eq_false c8
      clear c8
      replace H := Option.bind_eq_some_iff.mp H
      obtain ⟨⟨t688, t689, t690⟩, A130, H⟩ := H
      try dsimp only at H
      have A13 := aM A130
      clear A130
      simp only [Option.some.injEq, Prod.mk.injEq] at H
      obtain ⟨rfl, rfl, rfl⟩ := H
      obtain ⟨Ao14, co14, eo14⟩ := Kd.R_slice HO_7.out
      subst eo14
      go_wp2_with (first | ((with_reducible refine gate_callee (f := 60) rfl ?_); refine goesL_ (some 38) rfl rfl Try.func60 (by kernel_rfl) rfl #[.slice (some ad683) l0.length c0, .int .i64 a1, .slice Ao14 x7_2.length co14] rfl pA ?_; (with_reducible refine (gradineref22_Take.calls k2 _ _ l0 a1 _ _ x7_2 t688 t689 t690 _ ?s1 ?s2 ?s3 ?s4 A13.out).mono ?_); (case s1 => exact sC HR0 HB); (case s2 => exact HC0.out); (case s3 => exact sR HO_7); (case s4 => exact sL HO_7); rintro e w15 ⟨v691, v693, rfl, ho0, ho1, hb⟩; refine ⟨_, rfl, ?_⟩; have HO692 := aM (Kd.R_lower (Kd.R_new' ho0 (Kd.R_lt (pR HO_7.out))) (below_size (qB HB))); have HO694 := aM (Kd.R_lower (Kd.R_new' ho1 (Kd.R_lt (pR HO_7.out))) (below_size (qB HB))); replace HO_7 := eR2 HO_7 ho0 ho1 hb; replace HB := bS (qB HB) hb; (try clear hb); (try clear hk); (try clear hi); (try clear ho0); (try clear ho1)))
      go_ret3
      exact ⟨_, _, pE, by (with_reducible repeat (first | apply rA | apply rN | apply rD)); exact Kd.R_mono HO692.out (fun _ hk => hk.1), by (with_reducible repeat (first | apply rA | apply rN | apply rD)); exact Kd.R_mono HO694.out (fun _ hk => hk.1), qB HB⟩
     rw [if_pos c8] at H
     have c8b0 : decide (x21_2 < (rd l0 a1)) = true := decide_eq_true c8
     clear c8
     by_cases c9 : 0 ≤ a1
     rotate_left
     ·rw [if_neg c9] at H
      exact absurd H (by simp)
     rw [if_pos c9] at H
     have c9b0 : decide (0 ≤ a1) = true := decide_eq_true c9
     clear c9
     by_cases c10 : a1 < (l0.length : Int)
     rotate_left
     ·rw [if_neg c10] at H
      exact absurd H (by simp)
     rw [if_pos c10] at H
     have c10b0 : decide (a1 < (l0.length : Int)) = true := decide_eq_true c10
     clear c10
     by_cases c11 : x7_2.length < 17592186044416
     rotate_left
     ·rw [if_neg c11] at H
      exact absurd H (by simp)
     rw [if_pos c11] at H
     have LMc11 := aM c11
     clear c11
     obtain ⟨y685, hy685⟩ : ∃ y_ : List Int, y_ = (x7_2 ++ [wrap64 ((wrap64 ((rd l0 a1) - 1)) - x21_2)]) := ⟨_, rfl⟩
     replace H : (gradineref22_Flip.l0 k2 l0 a1 y685 (rd l0 a1) (wrap64 (x21_2 + 1))) = some (r1, r2, r3) := pH hy685 H
     have Ny685 := aM hy685
     clear hy685
     have H' := aM H
     clear H
     have p684 : 0 ≤ (a1 : Int) := of_decide_eq_true pD
     have q684 : a1 < (l0.length : Int) := of_decide_eq_true pD
     obtain ⟨ad684, e684, hx684_0⟩ := Kd.at_int HR0.out a1 p684 q684
     obtain rfl : ad683 = ad684 := (by injection e684)
     replace hx684_0 := (HB.out.cell (World.block_lt_of_cell? w _ hx684_0)).trans hx684_0
     replace p684 := eq_true p684
     replace q684 := eq_true q684
     go_wp2_with (first | ((with_reducible refine gate_builtin (b := .append) (xs := #[.tmp 24, .tmp 32]) rfl ?_); (try (refine gate_guard (by rfl) ?_; dsimp only)); at_builtin; refine Kd.R_append (Kd.int .i64) (w0 := w) w.heap.size rfl (.tmp 24) (.tmp 32) 22 3 (.int .i64 0) 8 rfl Try.underlying22 info3 rfl (by decide) (by omega) u7 x7_2 (wrap64 ((wrap64 ((rd l0 a1) - 1)) - x21_2)) [.int .i64 (wrap64 ((wrap64 ((rd l0 a1) - 1)) - x21_2))] (fun _ => True) (fun _ => False) rfl rfl ?aP (fun _ hk => hk.elim) ?aF ?aO ?aB ?aS ?aL ?_; (case aP => exact rfl); (case aB => exact (qB HB)); (case aF => exact (fun _ _ => trivial)); (case aO => exact (pR HO_7.out)); (case aS => exact (below_size (qB HB))); (case aL => have := LMc11.out; omega); intro v686 w12 ho hb hg hat; rw [← Ny685.out] at ho; replace HB := aM (hb); have HO687 := aM (ho); clear HO_7; clear ho hb hg hat))
     go_roundg k2
     case measure => have := HJ2.out; have := HK2.out; omega
     case rel => exact ⟨(y685), (wrap64 (x21_2 + 1)), (pF), H', ⟨by have := HJ2.out; have := HK2.out; omega⟩, ⟨pR HO687.out⟩, ⟨qB HB⟩⟩
def gradineref19_Has.l0 : Nat → List Int → Int → Int → Int → Option (Bool)
 | 0, _, _, _, _ => none
 | k + 1, x0, x1, x7, x8 => if x8 < x7 then (if 0 ≤ x8 then (if x8 < (x0.length : Int) then (if (rd x0 x8) = x1 then (some true) else (gradineref19_Has.l0 k x0 x1 x7 (wrap64 (x8 + 1)))) else (none)) else (none)) else (some false)
def gradineref19_Has.f (k : Nat) (l0 : List Int) (a1 : Int) : Option (Bool) := gradineref19_Has.l0 k l0 a1 (l0.length : Int) 0
set_option maxHeartbeats 8000000 in
set_option maxRecDepth 100000 in
theorem gradineref19_Has.calls (k : Nat) (A0 : Option Addr) (c0 : Nat) (l0 : List Int) (a1 : Int) (r : Bool) (w : World) (hr0 : Kd.C (Kd.int .i64) w A0 l0.length l0) (hc0 : l0.length ≤ c0) (h : gradineref19_Has.f k l0 a1 = some r) :
  Calls Try.prog 55 #[.slice A0 l0.length c0, .int .i64 a1] w fun e w' => e = .returned (.bool r) ∧ Drawn0 w w' := by
 have HR0 := aM hr0
 have HC0 := aM hc0
 clear hr0 hc0
 have H : (gradineref19_Has.l0 k l0 a1 (l0.length : Int) 0) = some r := h
 clear h
 have H' := aM H
 clear H
 go_enter Try.func55, Try.ntmps55
 go_wp2
 go_loopg [8] k (fun kq v8 w' => ∃ (x8_1 : Int), v8 = .int .i64 x8_1 ∧ Aside0 (gradineref19_Has.l0 kq l0 a1 (l0.length : Int) x8_1 = some r) ∧ Aside0 (kq ≤ k) ∧ Drawn0 w w')
 case atStart => exact ⟨(0), (pF), H', ⟨Nat.le_refl _⟩, by repeat (first | exact Drawn0.refl _ | apply Drawn0.step)⟩
 case round =>
  clear H'
  obtain ⟨x8_1, rfl, HA, HK1, ⟨m1, rfl⟩⟩ := hrel
  cases gk with
  | zero => exact absurd HA.out (by simp [gradineref19_Has.l0])
  | succ k1 =>
   have H := HA.out
   clear HA
   simp only [gradineref19_Has.l0] at H
   by_cases c3 : x8_1 < (l0.length : Int)
   rotate_left
   ·rw [if_neg c3] at H
    have c3b0 : decide (x8_1 < (l0.length : Int)) = false := decide_eq_false c3
    clear c3
    obtain rfl := Option.some.inj H
    go_wp2
    go_ret
    exact ⟨pF, by repeat (first | exact Drawn0.refl _ | apply Drawn0.step)⟩
   rw [if_pos c3] at H
   have c3b0 : decide (x8_1 < (l0.length : Int)) = true := decide_eq_true c3
   clear c3
   by_cases c4 : 0 ≤ x8_1
   rotate_left
   ·rw [if_neg c4] at H
    exact absurd H (by simp)
   rw [if_pos c4] at H
   have c4b0 : decide (0 ≤ x8_1) = true := decide_eq_true c4
   clear c4
   by_cases c5 : x8_1 < (l0.length : Int)
   rotate_left
   ·rw [if_neg c5] at H
    exact absurd H (by simp)
   rw [if_pos c5] at H
   have c5b0 : decide (x8_1 < (l0.length : Int)) = true := decide_eq_true c5
   clear c5
   by_cases c6 : (rd l0 x8_1) = a1
   ·rw [if_pos c6] at H
    have c6b0 : ((rd l0 x8_1) == a1) = true := beq_iff_eq.mpr c6
    have c6b1 : ((rd l0 x8_1) != a1) = false := bne_eq_false_iff_eq.mpr c6
    clear c6
    obtain rfl := Option.some.inj H
    have p522 : 0 ≤ (x8_1 : Int) := of_decide_eq_true pD
    have q522 : x8_1 < (l0.length : Int) := of_decide_eq_true pD
    obtain ⟨ad522, e522, hx522_0⟩ := Kd.at_int HR0.out x8_1 p522 q522
    cases e522
    replace p522 := eq_true p522
    replace q522 := eq_true q522
    go_wp2
    go_ret
    exact ⟨pF, by repeat (first | exact Drawn0.refl _ | apply Drawn0.step)⟩
   rw [if_neg c6] at H
   have c6b0 : ((rd l0 x8_1) == a1) = false := beq_eq_false_iff_ne.mpr c6
   have c6b1 : ((rd l0 x8_1) != a1) = true := bne_iff_ne.mpr c6
   have H' := aM H
   clear H
   have p522 : 0 ≤ (x8_1 : Int) := of_decide_eq_true pD
   have q522 : x8_1 < (l0.length : Int) := of_decide_eq_true pD
   obtain ⟨ad522, e522, hx522_0⟩ := Kd.at_int HR0.out x8_1 p522 q522
   cases e522
   replace p522 := eq_true p522
   replace q522 := eq_true q522
   go_wp2
   go_roundg k1
   case measure => have := HK1.out; omega
   case rel => exact ⟨(wrap64 (x8_1 + 1)), (pF), H', ⟨by have := HK1.out; omega⟩, by repeat (first | exact Drawn0.refl _ | apply Drawn0.step)⟩
mutual
def gradineref19_Axes.j0 : Nat → Int → List Int → Bool → Option (List Bool × Int)
 | 0, _, _, _ => none
 | k + 1, x0, x1, x14 => if x14 = true then (some (([] : List Bool), 9)) else (gradineref19_Axes.l0 k x0 x1 (x1.length : Int) 0)
def gradineref19_Axes.l0 : Nat → Int → List Int → Int → Int → Option (List Bool × Int)
 | 0, _, _, _, _ => none
 | k + 1, x0, x1, x16, x17 => if x17 < x16 then (if 0 ≤ x17 then (if x17 < (x1.length : Int) then (if (rd x1 x17) < 0 then (some (([] : List Bool), 10)) else (if (rd x1 x17) ≥ x0 then (some (([] : List Bool), 10)) else (if x17 ≤ (x1.length : Int) then ((gradineref19_Has.f k (x1.take (x17 : Int).toNat) (rd x1 x17)).bind fun t527 => (if t527 = true then (some (([] : List Bool), 10)) else (gradineref19_Axes.l0 k x0 x1 x16 (wrap64 (x17 + 1))))) else (none)))) else (none)) else (none)) else (gradineref19_Axes.l1 k x1 ([] : List Bool) x0 0)
def gradineref19_Axes.l1 : Nat → List Int → List Bool → Int → Int → Option (List Bool × Int)
 | 0, _, _, _, _ => none
 | k + 1, x1, x7, x44, x45 => if x45 < x44 then (if (x1.length : Int) = 0 then (if x7.length < 140737488355328 then (gradineref19_Axes.l1 k x1 (x7 ++ [true]) x44 (wrap64 (x45 + 1))) else (none)) else ((gradineref19_Has.f k x1 x45).bind fun t531 => (if x7.length < 140737488355328 then (gradineref19_Axes.l1 k x1 (x7 ++ [t531]) x44 (wrap64 (x45 + 1))) else (none)))) else (some (x7, 0))
end
def gradineref19_Axes.f (k : Nat) (a0 : Int) (l1 : List Int) : Option (List Bool × Int) := if a0 < 0 then (gradineref19_Axes.j0 k a0 l1 true) else (gradineref19_Axes.j0 k a0 l1 (decide (a0 > 6)))
set_option maxHeartbeats 8000000 in
set_option maxRecDepth 100000 in
theorem gradineref19_Axes.calls (k : Nat) (a0 : Int) (A1 : Option Addr) (c1 : Nat) (l1 : List Int) (r1 : List Bool) (r2 : Int) (w : World) (hr1 : Kd.C (Kd.int .i64) w A1 l1.length l1) (hc1 : l1.length ≤ c1) (h : gradineref19_Axes.f k a0 l1 = some (r1, r2)) :
  Calls Try.prog 65 #[.int .i64 a0, .slice A1 l1.length c1] w fun e w' => ∃ v0_ : Value, e = .returned (.tuple #[v0_, .int .i64 r2]) ∧ Kd.R Kd.bool 4 w' w.heap.size (fun _ => True) v0_ r1 ∧ Below w.heap.size w w' := by
 have HR1 := aM hr1
 have HC1 := aM hc1
 clear hr1 hc1
 have HB := aM (Below.refl w.heap.size w)
 have H : (if a0 < 0 then (gradineref19_Axes.j0 k a0 l1 true) else (gradineref19_Axes.j0 k a0 l1 (decide (a0 > 6)))) = some (r1, r2) := h
 clear h
 have HC3 := aM H
 clear H
 go_enter Try.func65, Try.ntmps65
 go_upto_region 1 with (fail)
 repeat (go_quiet (fail); go_upto_region 1 with (fail))
 go_cut [14] (fun v14 wc => ∃ (kq : Nat) (x14_2 : Bool), v14 = .bool x14_2 ∧ Aside0 (gradineref19_Axes.j0 kq a0 l1 x14_2 = some (r1, r2)) ∧ Aside0 (kq ≤ k) ∧ Aside0 (Below w.heap.size w wc))
 case first =>
  have H := HC3.out
  clear HC3
  by_cases c4 : a0 < 0
  ·rw [if_pos c4] at H
   have c4b0 : decide (a0 < 0) = true := decide_eq_true c4
   clear c4
   (first | rw [c4b0] | (simp only [i64_w, i32_w]; rw [c4b0]) | skip)
   have H' := aM H
   clear H
   go_wp2
   repeat (go_quiet (fail); try go_wp2)
   go_meet
   case rel => exact ⟨_, (true), (pF), H', ⟨by first | omega | exact Nat.le_refl _⟩, ⟨qB HB⟩⟩
  rw [if_neg c4] at H
  have c4b0 : decide (a0 < 0) = false := decide_eq_false c4
  clear c4
  (first | rw [c4b0] | (simp only [i64_w, i32_w]; rw [c4b0]) | skip)
  have H' := aM H
  clear H
  go_wp2
  repeat (go_quiet (fail); try go_wp2)
  go_meet
  case rel => exact ⟨_, (decide (a0 > 6)), (pF), H', ⟨by first | omega | exact Nat.le_refl _⟩, ⟨qB HB⟩⟩
 case rest =>
  clear HC3
  try clear c1
  obtain ⟨kq, x14_2, rfl, HA, HJ2, HB⟩ := hcut
  cases kq with
  | zero => exact absurd HA.out (by simp [gradineref19_Axes.j0])
  | succ kj2 =>
   have H := HA.out
   clear HA
   simp only [gradineref19_Axes.j0] at H
   by_cases c5 : x14_2 = true
   ·subst c5
    rw [if_pos rfl] at H
    simp only [Option.some.injEq, Prod.mk.injEq] at H
    obtain ⟨rfl, rfl⟩ := H
    go_wp2
    repeat (go_quiet (fail); try go_wp2)
    go_ret2
    exact ⟨_, pE, pN, qB HB⟩
   replace c5 := Bool.eq_false_iff.mpr c5
   subst c5
   rw [if_neg (show ¬ (false = true) by decide)] at H
   have H' := aM H
   clear H
   go_wp2
   repeat (go_quiet (fail); try go_wp2)
   go_loopg [17] kj2 (fun kq v17 w' => ∃ (x17_2 : Int), v17 = .int .i64 x17_2 ∧ Aside0 (gradineref19_Axes.l0 kq a0 l1 (l1.length : Int) x17_2 = some (r1, r2)) ∧ Aside0 (kq ≤ kj2) ∧ Aside0 (Below w.heap.size w w'))
   case atStart => exact ⟨(0), (pF), H', ⟨Nat.le_refl _⟩, ⟨qB HB⟩⟩
   case round =>
    clear H'
    try clear c5
    obtain ⟨x17_2, rfl, HA, HK2, HB⟩ := hrel
    cases gk with
    | zero => exact absurd HA.out (by simp [gradineref19_Axes.l0])
    | succ k2 =>
     have H := HA.out
     clear HA
     simp only [gradineref19_Axes.l0] at H
     by_cases c6 : x17_2 < (l1.length : Int)
     rotate_left
     ·rw [if_neg c6] at H
      have c6b0 : decide (x17_2 < (l1.length : Int)) = false := decide_eq_false c6
      clear c6
      have H' := aM H
      clear H
      go_wp2
      repeat (go_quiet (fail); try go_wp2)
      go_loopg [7, 45] k2 (fun kq v7 v45 w' => ∃ (x7_3 : List Bool) (x45_3 : Int), v45 = .int .i64 x45_3 ∧ Aside0 (gradineref19_Axes.l1 kq l1 x7_3 a0 x45_3 = some (r1, r2)) ∧ Aside0 (kq ≤ k2) ∧ Aside0 (Kd.R Kd.bool 4 w' w.heap.size (fun _ => True) v7 x7_3) ∧ Aside0 (Below w.heap.size w w'))
      case atStart => exact ⟨(([] : List Bool)), (0), (pF), H', ⟨Nat.le_refl _⟩, ⟨pN⟩, ⟨qB HB⟩⟩
      case round =>
       clear H'
       try clear c6b0
       obtain ⟨x7_3, x45_3, rfl, HA, HK3, HO_7, HB⟩ := hrel
       cases gk with
       | zero => exact absurd HA.out (by simp [gradineref19_Axes.l1])
       | succ k3 =>
        have H := HA.out
        clear HA
        simp only [gradineref19_Axes.l1] at H
        by_cases c17 : x45_3 < a0
        rotate_left
        ·rw [if_neg c17] at H
         have c17b0 : decide (x45_3 < a0) = false := decide_eq_false c17
         clear c17
         simp only [Option.some.injEq, Prod.mk.injEq] at H
         obtain ⟨rfl, rfl⟩ := H
         go_wp2
         repeat (go_quiet (fail); try go_wp2)
         go_ret2
         exact ⟨_, pE, pR HO_7.out, qB HB⟩
        rw [if_pos c17] at H
        have c17b0 : decide (x45_3 < a0) = true := decide_eq_true c17
        clear c17
        by_cases c18 : (l1.length : Int) = 0
        ·rw [if_pos c18] at H
         have c18b0 : ((l1.length : Int) == 0) = true := beq_iff_eq.mpr c18
         have c18b1 : ((l1.length : Int) != 0) = false := bne_eq_false_iff_eq.mpr c18
         clear c18
         by_cases c19 : x7_3.length < 140737488355328
         rotate_left
         ·rw [if_neg c19] at H
          exact absurd H (by simp)
         rw [if_pos c19] at H
         have LMc19 := aM c19
         clear c19
         obtain ⟨y528, hy528⟩ : ∃ y_ : List Bool, y_ = (x7_3 ++ [true]) := ⟨_, rfl⟩
         replace H : (gradineref19_Axes.l1 k3 l1 y528 a0 (wrap64 (x45_3 + 1))) = some (r1, r2) := pH hy528 H
         have Ny528 := aM hy528
         clear hy528
         have H' := aM H
         clear H
         go_wp2_with (first | ((with_reducible refine gate_builtin (b := .append) (xs := #[.tmp 48, .tmp 57]) rfl ?_); at_builtin; refine Kd.R_append Kd.bool (w0 := w) w.heap.size rfl (.tmp 48) (.tmp 57) 75 4 (.bool false) 1 rfl Try.underlying75 info4 rfl (by decide) (by omega) u7 x7_3 true [.bool true] (fun _ => True) (fun _ => False) rfl rfl ?aP (fun _ hk => hk.elim) ?aF ?aO ?aB ?aS ?aL ?_; (case aP => exact rfl); (case aB => exact (qB HB)); (case aF => exact (fun _ _ => trivial)); (case aO => exact (pR HO_7.out)); (case aS => exact (below_size (qB HB))); (case aL => have := LMc19.out; omega); intro v529 w20 ho hb hg hat; rw [← Ny528.out] at ho; replace HB := aM (hb); have HO530 := aM (ho); clear HO_7; clear ho hb hg hat))
         repeat (go_quiet (first | ((with_reducible refine gate_builtin (b := .append) (xs := #[.tmp 48, .tmp 57]) rfl ?_); at_builtin; refine Kd.R_append Kd.bool (w0 := w) w.heap.size rfl (.tmp 48) (.tmp 57) 75 4 (.bool false) 1 rfl Try.underlying75 info4 rfl (by decide) (by omega) u7 x7_3 true [.bool true] (fun _ => True) (fun _ => False) rfl rfl ?aP (fun _ hk => hk.elim) ?aF ?aO ?aB ?aS ?aL ?_; (case aP => exact rfl); (case aB => exact (qB HB)); (case aF => exact (fun _ _ => trivial)); (case aO => exact (pR HO_7.out)); (case aS => exact (below_size (qB HB))); (case aL => have := LMc19.out; omega); intro v529 w20 ho hb hg hat; rw [← Ny528.out] at ho; replace HB := aM (hb); have HO530 := aM (ho); clear HO_7; clear ho hb hg hat)); try go_wp2_with (first | ((with_reducible refine gate_builtin (b := .append) (xs := #[.tmp 48, .tmp 57]) rfl ?_); at_builtin; refine Kd.R_append Kd.bool (w0 := w) w.heap.size rfl (.tmp 48) (.tmp 57) 75 4 (.bool false) 1 rfl Try.underlying75 info4 rfl (by decide) (by omega) u7 x7_3 true [.bool true] (fun _ => True) (fun _ => False) rfl rfl ?aP (fun _ hk => hk.elim) ?aF ?aO ?aB ?aS ?aL ?_; (case aP => exact rfl); (case aB => exact (qB HB)); (case aF => exact (fun _ _ => trivial)); (case aO => exact (pR HO_7.out)); (case aS => exact (below_size (qB HB))); (case aL => have := LMc19.out; omega); intro v529 w20 ho hb hg hat; rw [← Ny528.out] at ho; replace HB := aM (hb); have HO530 := aM (ho); clear HO_7; clear ho hb hg hat)))
         go_roundg k3
         case measure => have := HJ2.out; have := HK2.out; have := HK3.out; omega
         case rel => exact ⟨(y528), (wrap64 (x45_3 + 1)), (pF), H', ⟨by have := HJ2.out; have := HK2.out; have := HK3.out; omega⟩, ⟨pR HO530.out⟩, ⟨qB HB⟩⟩
        rw [if_neg c18] at H
        have c18b0 : ((l1.length : Int) == 0) = false := beq_eq_false_iff_ne.mpr c18
        have c18b1 : ((l1.length : Int) != 0) = true := bne_iff_ne.mpr c18
        have c18b2 : ¬ (l1 = []) := fun h_ => c18 (by rw [h_]; rfl)
        replace H := Option.bind_eq_some_iff.mp H
        obtain ⟨t531, A210, H⟩ := H
        try dsimp only at H
        have A21 := aM A210
        clear A210
        by_cases c22 : x7_3.length < 140737488355328
        rotate_left
        ·rw [if_neg c22] at H
         exact absurd H (by simp)
        rw [if_pos c22] at H
        have LMc22 := aM c22
        clear c22
        obtain ⟨y532, hy532⟩ : ∃ y_ : List Bool, y_ = (x7_3 ++ [t531]) := ⟨_, rfl⟩
        replace H : (gradineref19_Axes.l1 k3 l1 y532 a0 (wrap64 (x45_3 + 1))) = some (r1, r2) := pH hy532 H
        have Ny532 := aM hy532
        clear hy532
        have H' := aM H
        clear H
        go_wp2_with (first | (go_at_call 55; (with_reducible refine (gradineref19_Has.calls k3 _ _ l1 x45_3 t531 _ ?s1 ?s2 A21.out).mono ?_); (case s1 => exact sC HR1 HB); (case s2 => exact HC1.out); rintro e w' ⟨rfl, ⟨nd, rfl⟩⟩; (try first | exact ⟨rfl, _, World.drewN_drewN _ _ _⟩ | exact ⟨rfl, _, Eq.trans (World.drewN_drewN _ _ _) (congrArg (World.drewN _) (Nat.add_assoc _ _ _))⟩)) | ((with_reducible refine gate_builtin (b := .append) (xs := #[.tmp 48, .tmp 57]) rfl ?_); at_builtin; refine Kd.R_append Kd.bool (w0 := w) w.heap.size rfl (.tmp 48) (.tmp 57) 75 4 (.bool false) 1 rfl Try.underlying75 info4 rfl (by decide) (by omega) u7 x7_3 t531 [.bool t531] (fun _ => True) (fun _ => False) rfl rfl ?aP (fun _ hk => hk.elim) ?aF ?aO ?aB ?aS ?aL ?_; (case aP => exact rfl); (case aB => exact (qB HB)); (case aF => exact (fun _ _ => trivial)); (case aO => exact (pR HO_7.out)); (case aS => exact (below_size (qB HB))); (case aL => have := LMc22.out; omega); intro v533 w23 ho hb hg hat; rw [← Ny532.out] at ho; replace HB := aM (hb); have HO534 := aM (ho); clear HO_7; clear ho hb hg hat))
        repeat (go_quiet (first | (go_at_call 55; (with_reducible refine (gradineref19_Has.calls k3 _ _ l1 x45_3 t531 _ ?s1 ?s2 A21.out).mono ?_); (case s1 => exact sC HR1 HB); (case s2 => exact HC1.out); rintro e w' ⟨rfl, ⟨nd, rfl⟩⟩; (try first | exact ⟨rfl, _, World.drewN_drewN _ _ _⟩ | exact ⟨rfl, _, Eq.trans (World.drewN_drewN _ _ _) (congrArg (World.drewN _) (Nat.add_assoc _ _ _))⟩)) | ((with_reducible refine gate_builtin (b := .append) (xs := #[.tmp 48, .tmp 57]) rfl ?_); at_builtin; refine Kd.R_append Kd.bool (w0 := w) w.heap.size rfl (.tmp 48) (.tmp 57) 75 4 (.bool false) 1 rfl Try.underlying75 info4 rfl (by decide) (by omega) u7 x7_3 t531 [.bool t531] (fun _ => True) (fun _ => False) rfl rfl ?aP (fun _ hk => hk.elim) ?aF ?aO ?aB ?aS ?aL ?_; (case aP => exact rfl); (case aB => exact (qB HB)); (case aF => exact (fun _ _ => trivial)); (case aO => exact (pR HO_7.out)); (case aS => exact (below_size (qB HB))); (case aL => have := LMc22.out; omega); intro v533 w23 ho hb hg hat; rw [← Ny532.out] at ho; replace HB := aM (hb); have HO534 := aM (ho); clear HO_7; clear ho hb hg hat)); try go_wp2_with (first | (go_at_call 55; (with_reducible refine (gradineref19_Has.calls k3 _ _ l1 x45_3 t531 _ ?s1 ?s2 A21.out).mono ?_); (case s1 => exact sC HR1 HB); (case s2 => exact HC1.out); rintro e w' ⟨rfl, ⟨nd, rfl⟩⟩; (try first | exact ⟨rfl, _, World.drewN_drewN _ _ _⟩ | exact ⟨rfl, _, Eq.trans (World.drewN_drewN _ _ _) (congrArg (World.drewN _) (Nat.add_assoc _ _ _))⟩)) | ((with_reducible refine gate_builtin (b := .append) (xs := #[.tmp 48, .tmp 57]) rfl ?_); at_builtin; refine Kd.R_append Kd.bool (w0 := w) w.heap.size rfl (.tmp 48) (.tmp 57) 75 4 (.bool false) 1 rfl Try.underlying75 info4 rfl (by decide) (by omega) u7 x7_3 t531 [.bool t531] (fun _ => True) (fun _ => False) rfl rfl ?aP (fun _ hk => hk.elim) ?aF ?aO ?aB ?aS ?aL ?_; (case aP => exact rfl); (case aB => exact (qB HB)); (case aF => exact (fun _ _ => trivial)); (case aO => exact (pR HO_7.out)); (case aS => exact (below_size (qB HB))); (case aL => have := LMc22.out; omega); intro v533 w23 ho hb hg hat; rw [← Ny532.out] at ho; replace HB := aM (hb); have HO534 := aM (ho); clear HO_7; clear ho hb hg hat)))
        go_roundg k3
        case measure => have := HJ2.out; have := HK2.out; have := HK3.out; omega
        case rel => exact ⟨(y532), (wrap64 (x45_3 + 1)), (pF), H', ⟨by have := HJ2.out; have := HK2.out; have := HK3.out; omega⟩, ⟨pR HO534.out⟩, ⟨qB HB⟩⟩
     rw [if_pos c6] at H
     have c6b0 : decide (x17_2 < (l1.length : Int)) = true := decide_eq_true c6
     clear c6
     by_cases c7 : 0 ≤ x17_2
     rotate_left
     ·rw [if_neg c7] at H
      exact absurd H (by simp)
     rw [if_pos c7] at H
     have c7b0 : decide (0 ≤ x17_2) = true := decide_eq_true c7
     clear c7
     by_cases c8 : x17_2 < (l1.length : Int)
     rotate_left
     ·rw [if_neg c8] at H
      exact absurd H (by simp)
     rw [if_pos c8] at H
     have c8b0 : decide (x17_2 < (l1.length : Int)) = true := decide_eq_true c8
     clear c8
     by_cases c9 : (rd l1 x17_2) < 0
     ·rw [if_pos c9] at H
      have c9b0 : decide ((rd l1 x17_2) < 0) = true := decide_eq_true c9
      clear c9
      simp only [Option.some.injEq, Prod.mk.injEq] at H
      obtain ⟨rfl, rfl⟩ := H
      have p523 : 0 ≤ (x17_2 : Int) := of_decide_eq_true pD
      have q523 : x17_2 < (l1.length : Int) := of_decide_eq_true pD
      obtain ⟨ad523, e523, hx523_0⟩ := Kd.at_int HR1.out x17_2 p523 q523
      cases e523
      replace hx523_0 := (HB.out.cell (World.block_lt_of_cell? w _ hx523_0)).trans hx523_0
      replace p523 := eq_true p523
      replace q523 := eq_true q523
      go_wp2
      repeat (go_quiet (fail); try go_wp2)
      go_ret2
      exact ⟨_, pE, pN, qB HB⟩
     rw [if_neg c9] at H
     have c9b0 : decide ((rd l1 x17_2) < 0) = false := decide_eq_false c9
     clear c9
     by_cases c10 : (rd l1 x17_2) ≥ a0
     ·rw [if_pos c10] at H
      have c10b0 : decide (a0 ≤ (rd l1 x17_2)) = true := decide_eq_true c10
      clear c10
      simp only [Option.some.injEq, Prod.mk.injEq] at H
      obtain ⟨rfl, rfl⟩ := H
      have p523 : 0 ≤ (x17_2 : Int) := of_decide_eq_true pD
      have q523 : x17_2 < (l1.length : Int) := of_decide_eq_true pD
      obtain ⟨ad523, e523, hx523_0⟩ := Kd.at_int HR1.out x17_2 p523 q523
      cases e523
      replace hx523_0 := (HB.out.cell (World.block_lt_of_cell? w _ hx523_0)).trans hx523_0
      replace p523 := eq_true p523
      replace q523 := eq_true q523
      have p524 : 0 ≤ (x17_2 : Int) := of_decide_eq_true pD
      have q524 : x17_2 < (l1.length : Int) := of_decide_eq_true pD
      obtain ⟨ad524, e524, hx524_0⟩ := Kd.at_int HR1.out x17_2 p524 q524
      obtain rfl : ad523 = ad524 := (by injection e524)
      replace hx524_0 := (HB.out.cell (World.block_lt_of_cell? w _ hx524_0)).trans hx524_0
      replace p524 := eq_true p524
      replace q524 := eq_true q524
      go_wp2
      repeat (go_quiet (fail); try go_wp2)
      go_ret2
      exact ⟨_, pE, pN, qB HB⟩
     rw [if_neg c10] at H
     have c10b0 : decide (a0 ≤ (rd l1 x17_2)) = false := decide_eq_false c10
     clear c10
     have c11b0 := eq_true (of_decide_eq_true pD : 0 ≤ x17_2)
     by_cases c12 : x17_2 ≤ (l1.length : Int)
     rotate_left
     ·rw [if_neg c12] at H
      exact absurd H (by simp)
     rw [if_pos c12] at H
     have c12b0 := eq_true c12
     have c12b1 : decide (x17_2 ≤ (l1.length : Int)) = true := decide_eq_true c12
     clear c12
     replace H := Option.bind_eq_some_iff.mp H
     obtain ⟨t527, A130, H⟩ := H
     try dsimp only at H
     have A13 := aM A130
     clear A130
     by_cases c14 : t527 = true
     ·subst c14
      rw [if_pos rfl] at H
      simp only [Option.some.injEq, Prod.mk.injEq] at H
      obtain ⟨rfl, rfl⟩ := H
      have p523 : 0 ≤ (x17_2 : Int) := of_decide_eq_true pD
      have q523 : x17_2 < (l1.length : Int) := of_decide_eq_true pD
      obtain ⟨ad523, e523, hx523_0⟩ := Kd.at_int HR1.out x17_2 p523 q523
      cases e523
      replace hx523_0 := (HB.out.cell (World.block_lt_of_cell? w _ hx523_0)).trans hx523_0
      replace p523 := eq_true p523
      replace q523 := eq_true q523
      have p524 : 0 ≤ (x17_2 : Int) := of_decide_eq_true pD
      have q524 : x17_2 < (l1.length : Int) := of_decide_eq_true pD
      obtain ⟨ad524, e524, hx524_0⟩ := Kd.at_int HR1.out x17_2 p524 q524
      obtain rfl : ad523 = ad524 := (by injection e524)
      replace hx524_0 := (HB.out.cell (World.block_lt_of_cell? w _ hx524_0)).trans hx524_0
      replace p524 := eq_true p524
      replace q524 := eq_true q524
      obtain ⟨i015, hi015, _, hsz15, _⟩ := info_parts info3
      obtain ⟨hcut15, hA15, hC15⟩ := print_take_of (P := Try.prog) (Value.int .i64) 0 22 3 .i64 Try.underlying22 hi015 hsz15 (some ad523) c1 l1 x17_2 (of_decide_eq_true pD) (of_decide_eq_true pD) HC1.out
      have HTK15 : Aside0 ((x17_2 : Int).toNat = (l1.take (x17_2 : Int).toNat).length) := ⟨by have h1_ : (x17_2 : Int) ≤ (l1.length : Int) := of_decide_eq_true pD; have h0_ : 0 ≤ (x17_2 : Int) := of_decide_eq_true pD; rw [List.length_take]; omega⟩
      have HR525 := aM (Kd.C_of_reads (h1 := fun _ => rfl) (hA15 _ (Kd.reads_of_C HR1.out)))
      have HC525 := aM hC15
      clear hA15 hC15 hi015 hsz15
      have p526 : 0 ≤ (x17_2 : Int) := of_decide_eq_true pD
      have q526 : x17_2 < (l1.length : Int) := of_decide_eq_true pD
      obtain ⟨ad526, e526, hx526_0⟩ := Kd.at_int HR1.out x17_2 p526 q526
      obtain rfl : ad523 = ad526 := (by injection e526)
      replace hx526_0 := (HB.out.cell (World.block_lt_of_cell? w _ hx526_0)).trans hx526_0
      replace p526 := eq_true p526
      replace q526 := eq_true q526
      go_wp2_with (first | (go_at_call 55; (first | (with_reducible refine (gradineref19_Has.calls k2 _ _ (l1.take (x17_2 : Int).toNat) (rd l1 x17_2) true _ ?s1 ?s2 A13.out).mono ?_) | (rw [HTK15.out]; (with_reducible refine (gradineref19_Has.calls k2 _ _ (l1.take (x17_2 : Int).toNat) (rd l1 x17_2) true _ ?s1 ?s2 A13.out).mono ?_))); (case s1 => exact sC HR525 HB); (case s2 => exact HC525.out); rintro e w' ⟨rfl, ⟨nd, rfl⟩⟩; (try first | exact ⟨rfl, _, World.drewN_drewN _ _ _⟩ | exact ⟨rfl, _, Eq.trans (World.drewN_drewN _ _ _) (congrArg (World.drewN _) (Nat.add_assoc _ _ _))⟩)))
      repeat (go_quiet (first | (go_at_call 55; (first | (with_reducible refine (gradineref19_Has.calls k2 _ _ (l1.take (x17_2 : Int).toNat) (rd l1 x17_2) true _ ?s1 ?s2 A13.out).mono ?_) | (rw [HTK15.out]; (with_reducible refine (gradineref19_Has.calls k2 _ _ (l1.take (x17_2 : Int).toNat) (rd l1 x17_2) true _ ?s1 ?s2 A13.out).mono ?_))); (case s1 => exact sC HR525 HB); (case s2 => exact HC525.out); rintro e w' ⟨rfl, ⟨nd, rfl⟩⟩; (try first | exact ⟨rfl, _, World.drewN_drewN _ _ _⟩ | exact ⟨rfl, _, Eq.trans (World.drewN_drewN _ _ _) (congrArg (World.drewN _) (Nat.add_assoc _ _ _))⟩))); try go_wp2_with (first | (go_at_call 55; (first | (with_reducible refine (gradineref19_Has.calls k2 _ _ (l1.take (x17_2 : Int).toNat) (rd l1 x17_2) true _ ?s1 ?s2 A13.out).mono ?_) | (rw [HTK15.out]; (with_reducible refine (gradineref19_Has.calls k2 _ _ (l1.take (x17_2 : Int).toNat) (rd l1 x17_2) true _ ?s1 ?s2 A13.out).mono ?_))); (case s1 => exact sC HR525 HB); (case s2 => exact HC525.out); rintro e w' ⟨rfl, ⟨nd, rfl⟩⟩; (try first | exact ⟨rfl, _, World.drewN_drewN _ _ _⟩ | exact ⟨rfl, _, Eq.trans (World.drewN_drewN _ _ _) (congrArg (World.drewN _) (Nat.add_assoc _ _ _))⟩))))
      go_ret2
      exact ⟨_, pE, pN, qB HB⟩
     replace c14 := Bool.eq_false_iff.mpr c14
     subst c14
     rw [if_neg (show ¬ (false = true) by decide)] at H
     have H' := aM H
     clear H
     have p523 : 0 ≤ (x17_2 : Int) := of_decide_eq_true pD
     have q523 : x17_2 < (l1.length : Int) := of_decide_eq_true pD
     obtain ⟨ad523, e523, hx523_0⟩ := Kd.at_int HR1.out x17_2 p523 q523
     cases e523
     replace hx523_0 := (HB.out.cell (World.block_lt_of_cell? w _ hx523_0)).trans hx523_0
     replace p523 := eq_true p523
     replace q523 := eq_true q523
     have p524 : 0 ≤ (x17_2 : Int) := of_decide_eq_true pD
     have q524 : x17_2 < (l1.length : Int) := of_decide_eq_true pD
     obtain ⟨ad524, e524, hx524_0⟩ := Kd.at_int HR1.out x17_2 p524 q524
     obtain rfl : ad523 = ad524 := (by injection e524)
     replace hx524_0 := (HB.out.cell (World.block_lt_of_cell? w _ hx524_0)).trans hx524_0
     replace p524 := eq_true p524
     replace q524 := eq_true q524
     obtain ⟨i016, hi016, _, hsz16, _⟩ := info_parts info3
     obtain ⟨hcut16, hA16, hC16⟩ := print_take_of (P := Try.prog) (Value.int .i64) 0 22 3 .i64 Try.underlying22 hi016 hsz16 (some ad523) c1 l1 x17_2 (of_decide_eq_true pD) (of_decide_eq_true pD) HC1.out
     have HTK16 : Aside0 ((x17_2 : Int).toNat = (l1.take (x17_2 : Int).toNat).length) := ⟨by have h1_ : (x17_2 : Int) ≤ (l1.length : Int) := of_decide_eq_true pD; have h0_ : 0 ≤ (x17_2 : Int) := of_decide_eq_true pD; rw [List.length_take]; omega⟩
     have HR525 := aM (Kd.C_of_reads (h1 := fun _ => rfl) (hA16 _ (Kd.reads_of_C HR1.out)))
     have HC525 := aM hC16
     clear hA16 hC16 hi016 hsz16
     have p526 : 0 ≤ (x17_2 : Int) := of_decide_eq_true pD
     have q526 : x17_2 < (l1.length : Int) := of_decide_eq_true pD
     obtain ⟨ad526, e526, hx526_0⟩ := Kd.at_int HR1.out x17_2 p526 q526
     obtain rfl : ad523 = ad526 := (by injection e526)
     replace hx526_0 := (HB.out.cell (World.block_lt_of_cell? w _ hx526_0)).trans hx526_0
     replace p526 := eq_true p526
     replace q526 := eq_true q526
     go_wp2_with (first | (go_at_call 55; (first | (with_reducible refine (gradineref19_Has.calls k2 _ _ (l1.take (x17_2 : Int).toNat) (rd l1 x17_2) false _ ?s1 ?s2 A13.out).mono ?_) | (rw [HTK16.out]; (with_reducible refine (gradineref19_Has.calls k2 _ _ (l1.take (x17_2 : Int).toNat) (rd l1 x17_2) false _ ?s1 ?s2 A13.out).mono ?_))); (case s1 => exact sC HR525 HB); (case s2 => exact HC525.out); rintro e w' ⟨rfl, ⟨nd, rfl⟩⟩; (try first | exact ⟨rfl, _, World.drewN_drewN _ _ _⟩ | exact ⟨rfl, _, Eq.trans (World.drewN_drewN _ _ _) (congrArg (World.drewN _) (Nat.add_assoc _ _ _))⟩)))
     repeat (go_quiet (first | (go_at_call 55; (first | (with_reducible refine (gradineref19_Has.calls k2 _ _ (l1.take (x17_2 : Int).toNat) (rd l1 x17_2) false _ ?s1 ?s2 A13.out).mono ?_) | (rw [HTK16.out]; (with_reducible refine (gradineref19_Has.calls k2 _ _ (l1.take (x17_2 : Int).toNat) (rd l1 x17_2) false _ ?s1 ?s2 A13.out).mono ?_))); (case s1 => exact sC HR525 HB); (case s2 => exact HC525.out); rintro e w' ⟨rfl, ⟨nd, rfl⟩⟩; (try first | exact ⟨rfl, _, World.drewN_drewN _ _ _⟩ | exact ⟨rfl, _, Eq.trans (World.drewN_drewN _ _ _) (congrArg (World.drewN _) (Nat.add_assoc _ _ _))⟩))); try go_wp2_with (first | (go_at_call 55; (first | (with_reducible refine (gradineref19_Has.calls k2 _ _ (l1.take (x17_2 : Int).toNat) (rd l1 x17_2) false _ ?s1 ?s2 A13.out).mono ?_) | (rw [HTK16.out]; (with_reducible refine (gradineref19_Has.calls k2 _ _ (l1.take (x17_2 : Int).toNat) (rd l1 x17_2) false _ ?s1 ?s2 A13.out).mono ?_))); (case s1 => exact sC HR525 HB); (case s2 => exact HC525.out); rintro e w' ⟨rfl, ⟨nd, rfl⟩⟩; (try first | exact ⟨rfl, _, World.drewN_drewN _ _ _⟩ | exact ⟨rfl, _, Eq.trans (World.drewN_drewN _ _ _) (congrArg (World.drewN _) (Nat.add_assoc _ _ _))⟩))))
     go_roundg k2
     case measure => have := HJ2.out; have := HK2.out; omega
     case rel => exact ⟨(wrap64 (x17_2 + 1)), (pF), H', ⟨by have := HJ2.out; have := HK2.out; omega⟩, ⟨qB HB⟩⟩
mutual
def gradineref19_Perm.j0 : Nat → List Int → List Int → Bool → Option (List Int × Int)
 | 0, _, _, _ => none
 | k + 1, x0, x1, x31 => if x31 = true then (some (([] : List Int), 10)) else (gradineref19_Perm.l0 k x0 x1 ([] : List Int) (x1.length : Int) 0)
def gradineref19_Perm.l0 : Nat → List Int → List Int → List Int → Int → Int → Option (List Int × Int)
 | 0, _, _, _, _, _ => none
 | k + 1, x0, x1, x9, x33, x34 => if x34 < x33 then (if 0 ≤ x34 then (if x34 < (x1.length : Int) then (if 0 ≤ (rd x1 x34) then (if (rd x1 x34) < (x0.length : Int) then (if x9.length < 17592186044416 then (gradineref19_Perm.l0 k x0 x1 (x9 ++ [rd x0 (rd x1 x34)]) x33 (wrap64 (x34 + 1))) else (none)) else (none)) else (none)) else (none)) else (none)) else (some (x9, 0))
end
def gradineref19_Perm.f (k : Nat) (l0 : List Int) (l1 : List Int) : Option (List Int × Int) := (gradineref19_Check.f k l0).bind fun t535 => (if t535 = 0 then ((gradineref19_Axes.f k (l0.length : Int) l1).bind fun bt536 => (if bt536.2 = 0 then (gradineref19_Perm.j0 k l0 l1 ((l1.length : Int) != (l0.length : Int))) else (gradineref19_Perm.j0 k l0 l1 true))) else (some (([] : List Int), t535)))
set_option maxHeartbeats 8000000 in
set_option maxRecDepth 100000 in
theorem gradineref19_Perm.calls (k : Nat) (A0 : Option Addr) (c0 : Nat) (l0 : List Int) (A1 : Option Addr) (c1 : Nat) (l1 : List Int) (r1 : List Int) (r2 : Int) (w : World) (hr0 : Kd.C (Kd.int .i64) w A0 l0.length l0) (hc0 : l0.length ≤ c0) (hr1 : Kd.C (Kd.int .i64) w A1 l1.length l1) (hc1 : l1.length ≤ c1) (h : gradineref19_Perm.f k l0 l1 = some (r1, r2)) :
  Calls Try.prog 58 #[.slice A0 l0.length c0, .slice A1 l1.length c1] w fun e w' => ∃ v0_ : Value, e = .returned (.tuple #[v0_, .int .i64 r2]) ∧ Kd.R (Kd.int .i64) 3 w' w.heap.size (fun _ => True) v0_ r1 ∧ Below w.heap.size w w' := by
 have HR0 := aM hr0
 have HC0 := aM hc0
 clear hr0 hc0
 have HR1 := aM hr1
 have HC1 := aM hc1
 clear hr1 hc1
 have HB := aM (Below.refl w.heap.size w)
 have H : ((gradineref19_Check.f k l0).bind fun t535 => (if t535 = 0 then ((gradineref19_Axes.f k (l0.length : Int) l1).bind fun bt536 => (if bt536.2 = 0 then (gradineref19_Perm.j0 k l0 l1 ((l1.length : Int) != (l0.length : Int))) else (gradineref19_Perm.j0 k l0 l1 true))) else (some (([] : List Int), t535)))) = some (r1, r2) := h
 clear h
 replace H := Option.bind_eq_some_iff.mp H
 obtain ⟨t535, A30, H⟩ := H
 try dsimp only at H
 have A3 := aM A30
 clear A30
 by_cases c4 : t535 = 0
 rotate_left
 ·rw [if_neg c4] at H
  have c4b0 : (t535 == 0) = false := beq_eq_false_iff_ne.mpr c4
  have c4b1 : (t535 != 0) = true := bne_iff_ne.mpr c4
  simp only [Option.some.injEq, Prod.mk.injEq] at H
  obtain ⟨rfl, rfl⟩ := H
  go_enter Try.func58, Try.ntmps58
  go_wp2_with (first | ((with_reducible refine gate_callee (f := 15) rfl ?_); refine goesL_ (some 12) rfl rfl Try.func15 (by kernel_rfl) rfl #[.slice A0 l0.length c0] rfl pA ?_; (with_reducible refine (gradineref19_Check.calls k _ _ l0 t535 _ ?s1 ?s2 A3.out).mono ?_); (case s1 => exact pC HR0.out); (case s2 => exact HC0.out); rintro e w' ⟨rfl, ⟨nd, rfl⟩⟩; refine ⟨_, rfl, ?_⟩))
  go_ret2
  exact ⟨_, pE, pN, qB HB⟩
 rw [if_pos c4] at H
 have c4b0 : (t535 == 0) = true := beq_iff_eq.mpr c4
 have c4b1 : (t535 != 0) = false := bne_eq_false_iff_eq.mpr c4
 clear c4
 replace H := Option.bind_eq_some_iff.mp H
 obtain ⟨⟨t536, t537⟩, A50, H⟩ := H
 try dsimp only at H
 have A5 := aM A50
 clear A50
 have HC6 := aM H
 clear H
 go_enter Try.func58, Try.ntmps58
 go_upto_region 5 with (first | ((with_reducible refine gate_callee (f := 15) rfl ?_); refine goesL_ (some 12) rfl rfl Try.func15 (by kernel_rfl) rfl #[.slice A0 l0.length c0] rfl pA ?_; (with_reducible refine (gradineref19_Check.calls k _ _ l0 t535 _ ?s1 ?s2 A3.out).mono ?_); (case s1 => exact pC HR0.out); (case s2 => exact HC0.out); rintro e w' ⟨rfl, ⟨nd, rfl⟩⟩; refine ⟨_, rfl, ?_⟩) | ((with_reducible refine gate_callee (f := 65) rfl ?_); refine goesL_ (some 20) rfl rfl Try.func65 (by kernel_rfl) rfl #[.int .i64 (l0.length : Int), .slice A1 l1.length c1] rfl pA ?_; (with_reducible refine (gradineref19_Axes.calls k (l0.length : Int) _ _ l1 t536 t537 _ ?s1 ?s2 A5.out).mono ?_); (case s1 => exact pC HR1.out); (case s2 => exact HC1.out); rintro e w7 ⟨v538, rfl, ho0, hb⟩; refine ⟨_, rfl, ?_⟩; have HO539 := aM (Kd.R_lower ho0 (below_size (qB HB))); replace HB := bS (qB HB) hb; (try clear hb); (try clear hk); (try clear hi); (try clear ho0)))
 (try simp only [Act.put, sP])
 go_cut [31] (fun v31 wc => ∃ (kq : Nat) (x31_5 : Bool), v31 = .bool x31_5 ∧ Aside0 (gradineref19_Perm.j0 kq l0 l1 x31_5 = some (r1, r2)) ∧ Aside0 (kq ≤ k) ∧ Aside0 (Below w.heap.size w wc))
 case first =>
  have H := HC6.out
  clear HC6
  by_cases c8 : t537 = 0
  rotate_left
  ·rw [if_neg c8] at H
   have c8b0 : (t537 == 0) = false := beq_eq_false_iff_ne.mpr c8
   have c8b1 : (t537 != 0) = true := bne_iff_ne.mpr c8
   (first | rw [c8b0] | (simp only [i64_w, i32_w]; rw [c8b0]) | skip)
   have H' := aM H
   clear H
   go_wp2
   go_meet
   case rel => exact ⟨_, (true), (pF), H', ⟨by first | omega | exact Nat.le_refl _⟩, ⟨qB HB⟩⟩
  rw [if_pos c8] at H
  have c8b0 : (t537 == 0) = true := beq_iff_eq.mpr c8
  have c8b1 : (t537 != 0) = false := bne_eq_false_iff_eq.mpr c8
  clear c8
  (first | rw [c8b0] | (simp only [i64_w, i32_w]; rw [c8b0]) | skip)
  have H' := aM H
  clear H
  go_wp2
  go_meet
  case rel => exact ⟨_, (((l1.length : Int) != (l0.length : Int))), (pF), H', ⟨by first | omega | exact Nat.le_refl _⟩, ⟨qB HB⟩⟩
 case rest =>
  clear HC6
  try clear c1
  try clear c4b0
  try clear c4b1
  obtain ⟨kq, x31_5, rfl, HA, HJ5, HB⟩ := hcut
  cases kq with
  | zero => exact absurd HA.out (by simp [gradineref19_Perm.j0])
  | succ kj5 =>
   have H := HA.out
   clear HA
   simp only [gradineref19_Perm.j0] at H
   by_cases c9 : x31_5 = true
   ·subst c9
    rw [if_pos rfl] at H
    simp only [Option.some.injEq, Prod.mk.injEq] at H
    obtain ⟨rfl, rfl⟩ := H
    go_wp2
    go_ret2
    exact ⟨_, pE, pN, qB HB⟩
   replace c9 := Bool.eq_false_iff.mpr c9
   subst c9
   rw [if_neg (show ¬ (false = true) by decide)] at H
   have H' := aM H
   clear H
   go_wp2
   go_loopg [9, 34] kj5 (fun kq v9 v34 w' => ∃ (x9_2 : List Int) (x34_2 : Int), v34 = .int .i64 x34_2 ∧ Aside0 (gradineref19_Perm.l0 kq l0 l1 x9_2 (l1.length : Int) x34_2 = some (r1, r2)) ∧ Aside0 (kq ≤ kj5) ∧ Aside0 (Kd.R (Kd.int .i64) 3 w' w.heap.size (fun _ => True) v9 x9_2) ∧ Aside0 (Below w.heap.size w w'))
   case atStart => exact ⟨(([] : List Int)), (0), (pF), H', ⟨Nat.le_refl _⟩, ⟨pN⟩, ⟨qB HB⟩⟩
   case round =>
    clear H'
    try clear c9
    obtain ⟨x9_2, x34_2, rfl, HA, HK2, HO_9, HB⟩ := hrel
    cases gk with
    | zero => exact absurd HA.out (by simp [gradineref19_Perm.l0])
    | succ k2 =>
     have H := HA.out
     clear HA
     simp only [gradineref19_Perm.l0] at H
     by_cases c10 : x34_2 < (l1.length : Int)
     rotate_left
     ·rw [if_neg c10] at H
      have c10b0 : decide (x34_2 < (l1.length : Int)) = false := decide_eq_false c10
      clear c10
      simp only [Option.some.injEq, Prod.mk.injEq] at H
      obtain ⟨rfl, rfl⟩ := H
      go_wp2
      go_ret2
      exact ⟨_, pE, pR HO_9.out, qB HB⟩
     rw [if_pos c10] at H
     have c10b0 : decide (x34_2 < (l1.length : Int)) = true := decide_eq_true c10
     clear c10
     by_cases c11 : 0 ≤ x34_2
     rotate_left
     ·rw [if_neg c11] at H
      exact absurd H (by simp)
     rw [if_pos c11] at H
     have c11b0 : decide (0 ≤ x34_2) = true := decide_eq_true c11
     clear c11
     by_cases c12 : x34_2 < (l1.length : Int)
     rotate_left
     ·rw [if_neg c12] at H
      exact absurd H (by simp)
     rw [if_pos c12] at H
     have c12b0 : decide (x34_2 < (l1.length : Int)) = true := decide_eq_true c12
     clear c12
     by_cases c13 : 0 ≤ (rd l1 x34_2)
     rotate_left
     ·rw [if_neg c13] at H
      exact absurd H (by simp)
     rw [if_pos c13] at H
     have c13b0 : decide (0 ≤ (rd l1 x34_2)) = true := decide_eq_true c13
     clear c13
     by_cases c14 : (rd l1 x34_2) < (l0.length : Int)
     rotate_left
     ·rw [if_neg c14] at H
      exact absurd H (by simp)
     rw [if_pos c14] at H
     have c14b0 : decide ((rd l1 x34_2) < (l0.length : Int)) = true := decide_eq_true c14
     clear c14
     by_cases c15 : x9_2.length < 17592186044416
     rotate_left
     ·rw [if_neg c15] at H
      exact absurd H (by simp)
     rw [if_pos c15] at H
     have LMc15 := aM c15
     clear c15
     obtain ⟨y542, hy542⟩ : ∃ y_ : List Int, y_ = (x9_2 ++ [rd l0 (rd l1 x34_2)]) := ⟨_, rfl⟩
     replace H : (gradineref19_Perm.l0 k2 l0 l1 y542 (l1.length : Int) (wrap64 (x34_2 + 1))) = some (r1, r2) := pH hy542 H
     have Ny542 := aM hy542
     clear hy542
     have H' := aM H
     clear H
     have p540 : 0 ≤ (x34_2 : Int) := of_decide_eq_true pD
     have q540 : x34_2 < (l1.length : Int) := of_decide_eq_true pD
     obtain ⟨ad540, e540, hx540_0⟩ := Kd.at_int HR1.out x34_2 p540 q540
     cases e540
     replace hx540_0 := (HB.out.cell (World.block_lt_of_cell? w _ hx540_0)).trans hx540_0
     replace p540 := eq_true p540
     replace q540 := eq_true q540
     have p541 : 0 ≤ ((rd l1 x34_2) : Int) := of_decide_eq_true pD
     have q541 : (rd l1 x34_2) < (l0.length : Int) := of_decide_eq_true pD
     obtain ⟨ad541, e541, hx541_0⟩ := Kd.at_int HR0.out (rd l1 x34_2) p541 q541
     cases e541
     replace hx541_0 := (HB.out.cell (World.block_lt_of_cell? w _ hx541_0)).trans hx541_0
     replace p541 := eq_true p541
     replace q541 := eq_true q541
     go_wp2_with (first | ((with_reducible refine gate_builtin (b := .append) (xs := #[.tmp 37, .tmp 45]) rfl ?_); (try (refine gate_guard (by rfl) ?_; dsimp only)); at_builtin; refine Kd.R_append (Kd.int .i64) (w0 := w) w.heap.size rfl (.tmp 37) (.tmp 45) 22 3 (.int .i64 0) 8 rfl Try.underlying22 info3 rfl (by decide) (by omega) u9 x9_2 (rd l0 (rd l1 x34_2)) [.int .i64 (rd l0 (rd l1 x34_2))] (fun _ => True) (fun _ => False) rfl rfl ?aP (fun _ hk => hk.elim) ?aF ?aO ?aB ?aS ?aL ?_; (case aP => exact rfl); (case aB => exact (qB HB)); (case aF => exact (fun _ _ => trivial)); (case aO => exact (pR HO_9.out)); (case aS => exact (below_size (qB HB))); (case aL => have := LMc15.out; omega); intro v543 w16 ho hb hg hat; rw [← Ny542.out] at ho; replace HB := aM (hb); have HO544 := aM (ho); clear HO_9; clear ho hb hg hat))
     go_roundg k2
     case measure => have := HJ5.out; have := HK2.out; omega
     case rel => exact ⟨(y542), (wrap64 (x34_2 + 1)), (pF), H', ⟨by have := HJ5.out; have := HK2.out; omega⟩, ⟨pR HO544.out⟩, ⟨qB HB⟩⟩
end Go.Proofs.Ytjbpekblcecneaa.Q
