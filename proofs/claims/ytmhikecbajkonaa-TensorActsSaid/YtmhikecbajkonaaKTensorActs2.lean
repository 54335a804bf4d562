/- Texts of the proof of TensorActs, part 2: what functions of the program compute, and that they compute it. -/
import Derived.Test.YtmhikecbajkonaaWordsMore
import Derived.WalkSpells
import Derived.Test.YtmhikecbajkonaaKTensorActs1
namespace Go.Proofs.Ytmhikecbajkonaa.Q
open Go.RowKit Go.Proofs.YtmhikecbajkonaaW.PrintWords Go.Proofs.YtmhikecbajkonaaW.PrintLast Go.Proofs.YtmhikecbajkonaaW.PrintMore
attribute [local go_sem] max2_int min2_int max_two min_two max_three min_three max_four min_four   -- for this text's walks alone
set_option linter.unusedVariables false
set_option linter.unusedSimpArgs false
mutual
def gradineref22_Cells.j0 : Nat → Int → Bool → Int → List Int → List Int → Option (List Int)
 | 0, _, _, _, _, _ => none
 | k + 1, x1, x38, zg, ze, zd => if x38 = true then (some ([] : List Int)) else (gradineref22_Cells.l0 k x1 (ze.length : Int) 0 zg ze zd)
def gradineref22_Cells.l0 : Nat → Int → Int → Int → Int → List Int → List Int → Option (List Int)
 | 0, _, _, _, _, _, _ => none
 | k + 1, x1, x41, x42, zg, ze, zd => if x42 < x41 then (if 0 ≤ x42 then (if x42 < (ze.length : Int) then (if (rd ze x42) > 1 then (if x42 < (zd.length : Int) then (if (rd zd x42) ≥ x1 then (some ([] : List Int)) else (if (rd zd x42) ≤ (wrap64 (-x1)) then (some ([] : List Int)) else (gradineref22_Cells.l0 k x1 x41 (wrap64 (x42 + 1)) zg ze zd))) else (none)) else (gradineref22_Cells.l0 k x1 x41 (wrap64 (x42 + 1)) zg ze zd)) else (none)) else (none)) else ((gradineref20_All.f k ze).bind fun zc => (gradineref22_Cells.l1 k x1 zc ([] : List Int) (zc.length : Int) 0 zg ze zd))
def gradineref22_Cells.l1 : Nat → Int → List (List Int) → List Int → Int → Int → Int → List Int → List Int → Option (List Int)
 | 0, _, _, _, _, _, _, _, _ => none
 | k + 1, x1, x6, x7, x75, x76, zg, ze, zd => if x76 < x75 then (if 0 ≤ x76 then (if x76 < (x6.length : Int) then (gradineref22_Cells.l2 k x1 x6 x7 x76 zg x75 x76 ((rd_L6 x6 x76).length : Int) 0 zg ze zd) else (none)) else (none)) else (some x7)
def gradineref22_Cells.l2 : Nat → Int → List (List Int) → List Int → Int → Int → Int → Int → Int → Int → Int → List Int → List Int → Option (List Int)
 | 0, _, _, _, _, _, _, _, _, _, _, _, _ => none
 | k + 1, x1, x6, x7, x8, x9, x75, x76, x85, x86, zg, ze, zd => if x86 < x85 then (if 0 ≤ x8 then (if x8 < (x6.length : Int) then (if 0 ≤ x86 then (if x86 < ((rd_L6 x6 x8).length : Int) then (if (rd (rd_L6 x6 x8) x86) > 0 then (if x86 < (zd.length : Int) then (gradineref22_Cells.l2 k x1 x6 x7 x8 (wrap64 (x9 + (wrap64 ((rd (rd_L6 x6 x8) x86) * (rd zd x86))))) x75 x76 x85 (wrap64 (x86 + 1)) zg ze zd) else (none)) else (gradineref22_Cells.l2 k x1 x6 x7 x8 x9 x75 x76 x85 (wrap64 (x86 + 1)) zg ze zd)) else (none)) else (none)) else (none)) else (none)) else (if x9 < 0 then (some ([] : List Int)) else (if x9 ≥ x1 then (some ([] : List Int)) else (if x7.length < 17592186044416 then (gradineref22_Cells.l1 k x1 x6 (x7 ++ [x9]) x75 (wrap64 (x76 + 1)) zg ze zd) else (none))))
end
def gradineref22_Cells.f (k : Nat) (a0_0 : Int) (l0_1 : List Int) (l0_2 : List Int) (a1 : Int) : Option (List Int) := (gradineref19_Check.f k l0_1).bind fun zj => (if zj = 0 then (if (l0_2.length : Int) = (l0_1.length : Int) then (if a1 > 64 then (gradineref22_Cells.j0 k a1 true a0_0 l0_1 l0_2) else (if a0_0 < 0 then (gradineref22_Cells.j0 k a1 true a0_0 l0_1 l0_2) else (gradineref22_Cells.j0 k a1 (decide (a0_0 ≥ a1)) a0_0 l0_1 l0_2))) else (gradineref22_Cells.j0 k a1 true a0_0 l0_1 l0_2)) else (gradineref22_Cells.j0 k a1 true a0_0 l0_1 l0_2))
set_option maxHeartbeats 8000000 in
set_option maxRecDepth 100000 in
theorem gradineref22_Cells.calls (k : Nat) (a0_0 : Int) (A0_1 : Option Addr) (c0_1 : Nat) (l0_1 : List Int) (A0_2 : Option Addr) (c0_2 : Nat) (l0_2 : List Int) (a1 : Int) (r : List Int) (w : World) (hr0_1 : Kd.C (Kd.int .i64) w A0_1 l0_1.length l0_1) (hc0_1 : l0_1.length ≤ c0_1) (hr0_2 : Kd.C (Kd.int .i64) w A0_2 l0_2.length l0_2) (hc0_2 : l0_2.length ≤ c0_2) (h : gradineref22_Cells.f k a0_0 l0_1 l0_2 a1 = some r) :
  Calls Try.prog 11 #[.agg #[.int .i64 a0_0, .slice A0_1 l0_1.length c0_1, .slice A0_2 l0_2.length c0_2], .int .i64 a1] w fun e w' => ∃ v0_ : Value, e = .returned (v0_) ∧ Kd.R (Kd.int .i64) 3 w' w.heap.size (fun _ => True) v0_ r ∧ Below w.heap.size w w' := by
 have hu43 := Try.underlying43
 have zf := aM hr0_1
 have zi := aM hc0_1
 clear hr0_1 hc0_1
 have zo := aM hr0_2
 have HC0_2 := aM hc0_2
 clear hr0_2 hc0_2
 have HB := aM (Below.refl w.heap.size w)
 have H : ((gradineref19_Check.f k l0_1).bind fun zj => (if zj = 0 then (if (l0_2.length : Int) = (l0_1.length : Int) then (if a1 > 64 then (gradineref22_Cells.j0 k a1 true a0_0 l0_1 l0_2) else (if a0_0 < 0 then (gradineref22_Cells.j0 k a1 true a0_0 l0_1 l0_2) else (gradineref22_Cells.j0 k a1 (decide (a0_0 ≥ a1)) a0_0 l0_1 l0_2))) else (gradineref22_Cells.j0 k a1 true a0_0 l0_1 l0_2)) else (gradineref22_Cells.j0 k a1 true a0_0 l0_1 l0_2))) = some r := h
 clear h
 have HC3 := aM H
 clear H
 go_enter Try.func11, Try.ntmps11
 go_upto_region 1 with (first | ((with_reducible refine gate_dst (N := 2) rfl ?_); (try (refine gate_guard (by rfl) ?_; dsimp only)); refine box_event ?hg (N := 2) ?hd (cs := #[.int .i64 a0_0, .slice A0_1 l0_1.length c0_1, .slice A0_2 l0_2.length c0_2]) (t := 43) ?hr ?_; (case hd => rfl); (case hg => rfl); (case hr => first | (go_simp; done) | (go_simp; rfl)); intro zh hg w4 hbox hb; have za := aM (hbox); have zq := gE (w := w) hg (qB HB); have zb := zq; replace HB := bS (qB HB) hb; clear hb hbox hg))
 repeat (go_quiet (first | ((with_reducible refine gate_dst (N := 2) rfl ?_); (try (refine gate_guard (by rfl) ?_; dsimp only)); refine box_event ?hg (N := 2) ?hd (cs := #[.int .i64 a0_0, .slice A0_1 l0_1.length c0_1, .slice A0_2 l0_2.length c0_2]) (t := 43) ?hr ?_; (case hd => rfl); (case hg => rfl); (case hr => first | (go_simp; done) | (go_simp; rfl)); intro zh hg w4 hbox hb; have za := aM (hbox); have zq := gE (w := w) hg (qB HB); have zb := zq; replace HB := bS (qB HB) hb; clear hb hbox hg)); go_upto_region 1 with (first | ((with_reducible refine gate_dst (N := 2) rfl ?_); (try (refine gate_guard (by rfl) ?_; dsimp only)); refine box_event ?hg (N := 2) ?hd (cs := #[.int .i64 a0_0, .slice A0_1 l0_1.length c0_1, .slice A0_2 l0_2.length c0_2]) (t := 43) ?hr ?_; (case hd => rfl); (case hg => rfl); (case hr => first | (go_simp; done) | (go_simp; rfl)); intro zh hg w4 hbox hb; have za := aM (hbox); have zq := gE (w := w) hg (qB HB); have zb := zq; replace HB := bS (qB HB) hb; clear hb hbox hg)))
 (try simp only [Act.put, sP])
 go_cut [38] (fun v38 wc => ∃ (kq : Nat) (x38_2 : Bool), v38 = .bool x38_2 ∧ Aside0 (gradineref22_Cells.j0 kq a1 x38_2 a0_0 l0_1 l0_2 = some r) ∧ Aside0 (kq ≤ k) ∧ Aside0 (wc.heap[zh]? = some (.cells #[.int .i64 a0_0, (.slice A0_1 l0_1.length c0_1), (.slice A0_2 l0_2.length c0_2)] 43 (0, 0))) ∧ Aside0 (Below w.heap.size w wc))
 case first =>
  have H := HC3.out
  clear HC3
  replace H := Option.bind_eq_some_iff.mp H
  obtain ⟨zj, A50, H⟩ := H
  try dsimp only at H
  have A5 := aM A50
  clear A50
  by_cases c6 : zj = 0
  rotate_left
  ·rw [if_neg c6] at H
   have zs : (zj == 0) = false := beq_eq_false_iff_ne.mpr c6
   have c6b1 : (zj != 0) = true := bne_iff_ne.mpr c6
   (first | rw [zs] | (simp only [i64_w, i32_w]; rw [zs]) | skip)
   have H' := aM H
   clear H
   obtain ⟨hcz14_0, hcz14_1, hcz14_2, hfz14_0, hfz14_1, hfz14_2⟩ := blk3 za.out
   go_wp2_with (first | (go_at_call 9; (with_reducible refine (gradineref19_Check.calls k _ _ l0_1 zj _ ?s1 ?s2 A5.out).mono ?_); (case s1 => exact sC zf HB); (case s2 => exact zi.out); rintro e w' ⟨rfl, ⟨nd, rfl⟩⟩; (try first | exact ⟨rfl, _, World.drewN_drewN _ _ _⟩ | exact ⟨rfl, _, Eq.trans (World.drewN_drewN _ _ _) (congrArg (World.drewN _) (Nat.add_assoc _ _ _))⟩)))
   repeat (go_quiet (first | (go_at_call 9; (with_reducible refine (gradineref19_Check.calls k _ _ l0_1 zj _ ?s1 ?s2 A5.out).mono ?_); (case s1 => exact sC zf HB); (case s2 => exact zi.out); rintro e w' ⟨rfl, ⟨nd, rfl⟩⟩; (try first | exact ⟨rfl, _, World.drewN_drewN _ _ _⟩ | exact ⟨rfl, _, Eq.trans (World.drewN_drewN _ _ _) (congrArg (World.drewN _) (Nat.add_assoc _ _ _))⟩))); try go_wp2_with (first | (go_at_call 9; (with_reducible refine (gradineref19_Check.calls k _ _ l0_1 zj _ ?s1 ?s2 A5.out).mono ?_); (case s1 => exact sC zf HB); (case s2 => exact zi.out); rintro e w' ⟨rfl, ⟨nd, rfl⟩⟩; (try first | exact ⟨rfl, _, World.drewN_drewN _ _ _⟩ | exact ⟨rfl, _, Eq.trans (World.drewN_drewN _ _ _) (congrArg (World.drewN _) (Nat.add_assoc _ _ _))⟩))))
   go_meet
   case rel => exact ⟨_, (true), (pF), H', ⟨by first | omega | exact Nat.le_refl _⟩, ⟨pK za.out⟩, ⟨qB1 HB zb⟩⟩
  rw [if_pos c6] at H
  have zs : (zj == 0) = true := beq_iff_eq.mpr c6
  have c6b1 : (zj != 0) = false := bne_eq_false_iff_eq.mpr c6
  clear c6
  (first | rw [zs] | (simp only [i64_w, i32_w]; rw [zs]) | skip)
  by_cases c7 : (l0_2.length : Int) = (l0_1.length : Int)
  rotate_left
  ·rw [if_neg c7] at H
   have c7b0 : ((l0_2.length : Int) == (l0_1.length : Int)) = false := beq_eq_false_iff_ne.mpr c7
   have c7b1 : ((l0_2.length : Int) != (l0_1.length : Int)) = true := bne_iff_ne.mpr c7
   have c7b2 : (l0_2.length == l0_1.length) = false := by first | simpa using c7 | (simp at c7 ⊢; omega)
   have H' := aM H
   clear H
   obtain ⟨hcz13_0, hcz13_1, hcz13_2, hfz13_0, hfz13_1, hfz13_2⟩ := blk3 za.out
   go_wp2_with (first | (go_at_call 9; (with_reducible refine (gradineref19_Check.calls k _ _ l0_1 zj _ ?s1 ?s2 A5.out).mono ?_); (case s1 => exact sC zf HB); (case s2 => exact zi.out); rintro e w' ⟨rfl, ⟨nd, rfl⟩⟩; (try first | exact ⟨rfl, _, World.drewN_drewN _ _ _⟩ | exact ⟨rfl, _, Eq.trans (World.drewN_drewN _ _ _) (congrArg (World.drewN _) (Nat.add_assoc _ _ _))⟩)))
   repeat (go_quiet (first | (go_at_call 9; (with_reducible refine (gradineref19_Check.calls k _ _ l0_1 zj _ ?s1 ?s2 A5.out).mono ?_); (case s1 => exact sC zf HB); (case s2 => exact zi.out); rintro e w' ⟨rfl, ⟨nd, rfl⟩⟩; (try first | exact ⟨rfl, _, World.drewN_drewN _ _ _⟩ | exact ⟨rfl, _, Eq.trans (World.drewN_drewN _ _ _) (congrArg (World.drewN _) (Nat.add_assoc _ _ _))⟩))); try go_wp2_with (first | (go_at_call 9; (with_reducible refine (gradineref19_Check.calls k _ _ l0_1 zj _ ?s1 ?s2 A5.out).mono ?_); (case s1 => exact sC zf HB); (case s2 => exact zi.out); rintro e w' ⟨rfl, ⟨nd, rfl⟩⟩; (try first | exact ⟨rfl, _, World.drewN_drewN _ _ _⟩ | exact ⟨rfl, _, Eq.trans (World.drewN_drewN _ _ _) (congrArg (World.drewN _) (Nat.add_assoc _ _ _))⟩))))
   go_meet
   case rel => exact ⟨_, (true), (pF), H', ⟨by first | omega | exact Nat.le_refl _⟩, ⟨pK za.out⟩, ⟨qB1 HB zb⟩⟩
  rw [if_pos c7] at H
  have c7b0 : ((l0_2.length : Int) == (l0_1.length : Int)) = true := beq_iff_eq.mpr c7
  have c7b1 : ((l0_2.length : Int) != (l0_1.length : Int)) = false := bne_eq_false_iff_eq.mpr c7
  have c7b2 : (l0_2.length == l0_1.length) = true := by first | simpa using c7 | (simp at c7 ⊢; omega)
  clear c7
  by_cases c8 : a1 > 64
  ·rw [if_pos c8] at H
   have c8b0 : decide (64 < a1) = true := decide_eq_true c8
   clear c8
   have H' := aM H
   clear H
   obtain ⟨hcz9_0, hcz9_1, hcz9_2, hfz9_0, hfz9_1, hfz9_2⟩ := blk3 za.out
   go_wp2_with (first | (go_at_call 9; (with_reducible refine (gradineref19_Check.calls k _ _ l0_1 zj _ ?s1 ?s2 A5.out).mono ?_); (case s1 => exact sC zf HB); (case s2 => exact zi.out); rintro e w' ⟨rfl, ⟨nd, rfl⟩⟩; (try first | exact ⟨rfl, _, World.drewN_drewN _ _ _⟩ | exact ⟨rfl, _, Eq.trans (World.drewN_drewN _ _ _) (congrArg (World.drewN _) (Nat.add_assoc _ _ _))⟩)))
   repeat (go_quiet (first | (go_at_call 9; (with_reducible refine (gradineref19_Check.calls k _ _ l0_1 zj _ ?s1 ?s2 A5.out).mono ?_); (case s1 => exact sC zf HB); (case s2 => exact zi.out); rintro e w' ⟨rfl, ⟨nd, rfl⟩⟩; (try first | exact ⟨rfl, _, World.drewN_drewN _ _ _⟩ | exact ⟨rfl, _, Eq.trans (World.drewN_drewN _ _ _) (congrArg (World.drewN _) (Nat.add_assoc _ _ _))⟩))); try go_wp2_with (first | (go_at_call 9; (with_reducible refine (gradineref19_Check.calls k _ _ l0_1 zj _ ?s1 ?s2 A5.out).mono ?_); (case s1 => exact sC zf HB); (case s2 => exact zi.out); rintro e w' ⟨rfl, ⟨nd, rfl⟩⟩; (try first | exact ⟨rfl, _, World.drewN_drewN _ _ _⟩ | exact ⟨rfl, _, Eq.trans (World.drewN_drewN _ _ _) (congrArg (World.drewN _) (Nat.add_assoc _ _ _))⟩))))
   go_meet
   case rel => exact ⟨_, (true), (pF), H', ⟨by first | omega | exact Nat.le_refl _⟩, ⟨pK za.out⟩, ⟨qB1 HB zb⟩⟩
  rw [if_neg c8] at H
  have c8b0 : decide (64 < a1) = false := decide_eq_false c8
  clear c8
  by_cases c10 : a0_0 < 0
  ·rw [if_pos c10] at H
   have c10b0 : decide (a0_0 < 0) = true := decide_eq_true c10
   clear c10
   have H' := aM H
   clear H
   obtain ⟨hcz11_0, hcz11_1, hcz11_2, hfz11_0, hfz11_1, hfz11_2⟩ := blk3 za.out
   go_wp2_with (first | (go_at_call 9; (with_reducible refine (gradineref19_Check.calls k _ _ l0_1 zj _ ?s1 ?s2 A5.out).mono ?_); (case s1 => exact sC zf HB); (case s2 => exact zi.out); rintro e w' ⟨rfl, ⟨nd, rfl⟩⟩; (try first | exact ⟨rfl, _, World.drewN_drewN _ _ _⟩ | exact ⟨rfl, _, Eq.trans (World.drewN_drewN _ _ _) (congrArg (World.drewN _) (Nat.add_assoc _ _ _))⟩)))
   repeat (go_quiet (first | (go_at_call 9; (with_reducible refine (gradineref19_Check.calls k _ _ l0_1 zj _ ?s1 ?s2 A5.out).mono ?_); (case s1 => exact sC zf HB); (case s2 => exact zi.out); rintro e w' ⟨rfl, ⟨nd, rfl⟩⟩; (try first | exact ⟨rfl, _, World.drewN_drewN _ _ _⟩ | exact ⟨rfl, _, Eq.trans (World.drewN_drewN _ _ _) (congrArg (World.drewN _) (Nat.add_assoc _ _ _))⟩))); try go_wp2_with (first | (go_at_call 9; (with_reducible refine (gradineref19_Check.calls k _ _ l0_1 zj _ ?s1 ?s2 A5.out).mono ?_); (case s1 => exact sC zf HB); (case s2 => exact zi.out); rintro e w' ⟨rfl, ⟨nd, rfl⟩⟩; (try first | exact ⟨rfl, _, World.drewN_drewN _ _ _⟩ | exact ⟨rfl, _, Eq.trans (World.drewN_drewN _ _ _) (congrArg (World.drewN _) (Nat.add_assoc _ _ _))⟩))))
   go_meet
   case rel => exact ⟨_, (true), (pF), H', ⟨by first | omega | exact Nat.le_refl _⟩, ⟨pK za.out⟩, ⟨qB1 HB zb⟩⟩
  rw [if_neg c10] at H
  have c10b0 : decide (a0_0 < 0) = false := decide_eq_false c10
  clear c10
  have H' := aM H
  clear H
  obtain ⟨hcz12_0, hcz12_1, hcz12_2, hfz12_0, hfz12_1, hfz12_2⟩ := blk3 za.out
  go_wp2_with (first | (go_at_call 9; (with_reducible refine (gradineref19_Check.calls k _ _ l0_1 zj _ ?s1 ?s2 A5.out).mono ?_); (case s1 => exact sC zf HB); (case s2 => exact zi.out); rintro e w' ⟨rfl, ⟨nd, rfl⟩⟩; (try first | exact ⟨rfl, _, World.drewN_drewN _ _ _⟩ | exact ⟨rfl, _, Eq.trans (World.drewN_drewN _ _ _) (congrArg (World.drewN _) (Nat.add_assoc _ _ _))⟩)))
  repeat (go_quiet (first | (go_at_call 9; (with_reducible refine (gradineref19_Check.calls k _ _ l0_1 zj _ ?s1 ?s2 A5.out).mono ?_); (case s1 => exact sC zf HB); (case s2 => exact zi.out); rintro e w' ⟨rfl, ⟨nd, rfl⟩⟩; (try first | exact ⟨rfl, _, World.drewN_drewN _ _ _⟩ | exact ⟨rfl, _, Eq.trans (World.drewN_drewN _ _ _) (congrArg (World.drewN _) (Nat.add_assoc _ _ _))⟩))); try go_wp2_with (first | (go_at_call 9; (with_reducible refine (gradineref19_Check.calls k _ _ l0_1 zj _ ?s1 ?s2 A5.out).mono ?_); (case s1 => exact sC zf HB); (case s2 => exact zi.out); rintro e w' ⟨rfl, ⟨nd, rfl⟩⟩; (try first | exact ⟨rfl, _, World.drewN_drewN _ _ _⟩ | exact ⟨rfl, _, Eq.trans (World.drewN_drewN _ _ _) (congrArg (World.drewN _) (Nat.add_assoc _ _ _))⟩))))
  go_meet
  case rel => exact ⟨_, (decide (a0_0 ≥ a1)), (pF), H', ⟨by first | omega | exact Nat.le_refl _⟩, ⟨pK za.out⟩, ⟨qB1 HB zb⟩⟩
 case rest =>
  clear HC3
  obtain ⟨kq, x38_2, rfl, HA, HJ2, za, HB⟩ := hcut
  cases kq with
  | zero => exact absurd HA.out (by simp [gradineref22_Cells.j0])
  | succ kj2 =>
   have H := HA.out
   clear HA
   simp only [gradineref22_Cells.j0] at H
   by_cases c15 : x38_2 = true
   ·subst c15
    rw [if_pos rfl] at H
    obtain rfl := Option.some.inj H
    go_wp2
    repeat (go_quiet (fail); try go_wp2)
    go_ret
    exact ⟨_, pE, pN, qB1 HB zb⟩
   replace c15 := Bool.eq_false_iff.mpr c15
   subst c15
   rw [if_neg (show ¬ (false = true) by decide)] at H
   have H' := aM H
   clear H
   obtain ⟨hcz16_0, hcz16_1, hcz16_2, hfz16_0, hfz16_1, hfz16_2⟩ := blk3 za.out
   go_wp2
   repeat (go_quiet (fail); try go_wp2)
   go_loopg [42] kj2 (fun kq v42 w' => ∃ (x42_2 : Int), v42 = .int .i64 x42_2 ∧ Aside0 (gradineref22_Cells.l0 kq a1 (l0_1.length : Int) x42_2 a0_0 l0_1 l0_2 = some r) ∧ Aside0 (kq ≤ kj2) ∧ Aside0 (w'.heap[zh]? = some (.cells #[.int .i64 a0_0, (.slice A0_1 l0_1.length c0_1), (.slice A0_2 l0_2.length c0_2)] 43 (0, 0))) ∧ Aside0 (Below w.heap.size w w'))
   case atStart => exact ⟨(0), (pF), H', ⟨Nat.le_refl _⟩, ⟨pK za.out⟩, ⟨qB1 HB zb⟩⟩
   case round =>
    clear H'
    try clear c15
    try clear hcz16_0 hcz16_1 hcz16_2 hfz16_0 hfz16_1 hfz16_2
    obtain ⟨x42_2, rfl, HA, HK2, za, HB⟩ := hrel
    cases gk with
    | zero => exact absurd HA.out (by simp [gradineref22_Cells.l0])
    | succ k2 =>
     have H := HA.out
     clear HA
     simp only [gradineref22_Cells.l0] at H
     by_cases c17 : x42_2 < (l0_1.length : Int)
     ·rw [if_pos c17] at H
      have zz : decide (x42_2 < (l0_1.length : Int)) = true := decide_eq_true c17
      clear c17
      by_cases c18 : 0 ≤ x42_2
      rotate_left
      ·rw [if_neg c18] at H
       exact absurd H (by simp)
      rw [if_pos c18] at H
      have c18b0 : decide (0 ≤ x42_2) = true := decide_eq_true c18
      clear c18
      by_cases c19 : x42_2 < (l0_1.length : Int)
      rotate_left
      ·rw [if_neg c19] at H
       exact absurd H (by simp)
      rw [if_pos c19] at H
      have c19b0 : decide (x42_2 < (l0_1.length : Int)) = true := decide_eq_true c19
      clear c19
      by_cases c20 : (rd l0_1 x42_2) > 1
      rotate_left
      ·rw [if_neg c20] at H
       have c20b0 : decide (1 < (rd l0_1 x42_2)) = false := decide_eq_false c20
       clear c20
       have H' := aM H
       clear H
       obtain ⟨hcz27_0, hcz27_1, hcz27_2, hfz27_0, hfz27_1, hfz27_2⟩ := blk3 za.out
       have p248 : 0 ≤ (x42_2 : Int) := of_decide_eq_true pD
       have q248 : x42_2 < (l0_1.length : Int) := of_decide_eq_true pD
       obtain ⟨ad248, e248, hx248_0⟩ := Kd.at_int zf.out x42_2 p248 q248
       cases e248
       replace hx248_0 := (HB.out.cell (World.block_lt_of_cell? w _ hx248_0)).trans hx248_0
       replace p248 := eq_true p248
       replace q248 := eq_true q248
       go_wp2
       repeat (go_quiet (fail); try go_wp2)
       go_roundg k2
       case measure => have := HJ2.out; have := HK2.out; omega
       case rel => exact ⟨(wrap64 (x42_2 + 1)), (pF), H', ⟨by have := HJ2.out; have := HK2.out; omega⟩, ⟨pK za.out⟩, ⟨qB1 HB zb⟩⟩
      rw [if_pos c20] at H
      have c20b0 : decide (1 < (rd l0_1 x42_2)) = true := decide_eq_true c20
      clear c20
      by_cases c21 : x42_2 < (l0_2.length : Int)
      rotate_left
      ·rw [if_neg c21] at H
       exact absurd H (by simp)
      rw [if_pos c21] at H
      have c21b0 : decide (x42_2 < (l0_2.length : Int)) = true := decide_eq_true c21
      clear c21
      by_cases c22 : (rd l0_2 x42_2) ≥ a1
      ·rw [if_pos c22] at H
       have c22b0 : decide (a1 ≤ (rd l0_2 x42_2)) = true := decide_eq_true c22
       clear c22
       obtain rfl := Option.some.inj H
       obtain ⟨hcz23_0, hcz23_1, hcz23_2, hfz23_0, hfz23_1, hfz23_2⟩ := blk3 za.out
       have p248 : 0 ≤ (x42_2 : Int) := of_decide_eq_true pD
       have q248 : x42_2 < (l0_1.length : Int) := of_decide_eq_true pD
       obtain ⟨ad248, e248, hx248_0⟩ := Kd.at_int zf.out x42_2 p248 q248
       cases e248
       replace hx248_0 := (HB.out.cell (World.block_lt_of_cell? w _ hx248_0)).trans hx248_0
       replace p248 := eq_true p248
       replace q248 := eq_true q248
       have p249 : 0 ≤ (x42_2 : Int) := of_decide_eq_true pD
       have q249 : x42_2 < (l0_2.length : Int) := of_decide_eq_true pD
       obtain ⟨ad249, e249, hx249_0⟩ := Kd.at_int zo.out x42_2 p249 q249
       cases e249
       replace hx249_0 := (HB.out.cell (World.block_lt_of_cell? w _ hx249_0)).trans hx249_0
       replace p249 := eq_true p249
       replace q249 := eq_true q249
       go_wp2
       repeat (go_quiet (fail); try go_wp2)
       go_ret
       exact ⟨_, pE, pN, qB1 HB zb⟩
      rw [if_neg c22] at H
      have c22b0 : decide (a1 ≤ (rd l0_2 x42_2)) = false := decide_eq_false c22
      clear c22
      by_cases c24 : (rd l0_2 x42_2) ≤ (wrap64 (-a1))
      ·rw [if_pos c24] at H
       have c24b0 : decide ((rd l0_2 x42_2) ≤ (wrap64 (-a1))) = true := decide_eq_true c24
       clear c24
       obtain rfl := Option.some.inj H
       obtain ⟨hcz25_0, hcz25_1, hcz25_2, hfz25_0, hfz25_1, hfz25_2⟩ := blk3 za.out
       have p248 : 0 ≤ (x42_2 : Int) := of_decide_eq_true pD
       have q248 : x42_2 < (l0_1.length : Int) := of_decide_eq_true pD
       obtain ⟨ad248, e248, hx248_0⟩ := Kd.at_int zf.out x42_2 p248 q248
       cases e248
       replace hx248_0 := (HB.out.cell (World.block_lt_of_cell? w _ hx248_0)).trans hx248_0
       replace p248 := eq_true p248
       replace q248 := eq_true q248
       have p249 : 0 ≤ (x42_2 : Int) := of_decide_eq_true pD
       have q249 : x42_2 < (l0_2.length : Int) := of_decide_eq_true pD
       obtain ⟨ad249, e249, hx249_0⟩ := Kd.at_int zo.out x42_2 p249 q249
       cases e249
       replace hx249_0 := (HB.out.cell (World.block_lt_of_cell? w _ hx249_0)).trans hx249_0
       replace p249 := eq_true p249
       replace q249 := eq_true q249
       have p250 : 0 ≤ (x42_2 : Int) := of_decide_eq_true pD
       have q250 : x42_2 < (l0_2.length : Int) := of_decide_eq_true pD
       obtain ⟨ad250, e250, hx250_0⟩ := Kd.at_int zo.out x42_2 p250 q250
       obtain rfl : ad249 = ad250 := (by injection e250)
       replace hx250_0 := (HB.out.cell (World.block_lt_of_cell? w _ hx250_0)).trans hx250_0
       replace p250 := eq_true p250
       replace q250 := eq_true q250
       go_wp2
       repeat (go_quiet (fail); try go_wp2)
       go_ret
       exact ⟨_, pE, pN, qB1 HB zb⟩
      rw [if_neg c24] at H
      have c24b0 : decide ((rd l0_2 x42_2) ≤ (wrap64 (-a1))) = false := decide_eq_false c24
      clear c24
      have H' := aM H
      clear H
      obtain ⟨hcz26_0, hcz26_1, hcz26_2, hfz26_0, hfz26_1, hfz26_2⟩ := blk3 za.out
      have p248 : 0 ≤ (x42_2 : Int) := of_decide_eq_true pD
      have q248 : x42_2 < (l0_1.length : Int) := of_decide_eq_true pD
      obtain ⟨ad248, e248, hx248_0⟩ := Kd.at_int zf.out x42_2 p248 q248
      cases e248
      replace hx248_0 := (HB.out.cell (World.block_lt_of_cell? w _ hx248_0)).trans hx248_0
      replace p248 := eq_true p248
      replace q248 := eq_true q248
      have p249 : 0 ≤ (x42_2 : Int) := of_decide_eq_true pD
      have q249 : x42_2 < (l0_2.length : Int) := of_decide_eq_true pD
      obtain ⟨ad249, e249, hx249_0⟩ := Kd.at_int zo.out x42_2 p249 q249
      cases e249
      replace hx249_0 := (HB.out.cell (World.block_lt_of_cell? w _ hx249_0)).trans hx249_0
      replace p249 := eq_true p249
      replace q249 := eq_true q249
      have p250 : 0 ≤ (x42_2 : Int) := of_decide_eq_true pD
      have q250 : x42_2 < (l0_2.length : Int) := of_decide_eq_true pD
      obtain ⟨ad250, e250, hx250_0⟩ := Kd.at_int zo.out x42_2 p250 q250
      obtain rfl : ad249 = ad250 := (by injection e250)
      replace hx250_0 := (HB.out.cell (World.block_lt_of_cell? w _ hx250_0)).trans hx250_0
      replace p250 := eq_true p250
      replace q250 := eq_true q250
      go_wp2
      repeat (go_quiet (fail); try go_wp2)
      go_roundg k2
      case measure => have := HJ2.out; have := HK2.out; omega
      case rel => exact ⟨(wrap64 (x42_2 + 1)), (pF), H', ⟨by have := HJ2.out; have := HK2.out; omega⟩, ⟨pK za.out⟩, ⟨qB1 HB zb⟩⟩
     rw [if_neg c17] at H
     have zz : decide (x42_2 < (l0_1.length : Int)) = false := decide_eq_false c17
     clear c17
     replace H := Option.bind_eq_some_iff.mp H
     obtain ⟨zc, z2, H⟩ := H
     try dsimp only at H
     have A28 := aM z2
     clear z2
     have H' := aM H
     clear H
     obtain ⟨hcz29_0, hcz29_1, hcz29_2, hfz29_0, hfz29_1, hfz29_2⟩ := blk3 za.out
     go_wp2_with (first | (go_at_call 31; (with_reducible refine (gradineref20_All.calls k2 _ _ l0_1 zc _ ?s1 ?s2 A28.out).mono ?_); (case s1 => exact sC zf HB); (case s2 => exact zi.out); rintro e w30 ⟨z3, rfl, ho0, hb⟩; have zp := aM (Kd.N_lower (Kd.N_mono (ok' := fun k_ => k_ ≠ zh) ho0 (fun k_ hk_ => (Kd.freshB (g := zh) (pK za.out) k_ hk_))) (below_size (qB1 HB zb))); replace za := bK za hb; replace HB := bS (qB1 HB zb) hb; (try clear hb); (try clear hk); (try clear hi); (try clear ho0); obtain ⟨z1, zy, zt⟩ := Kd.N_slice zp.out; subst zt))
     repeat (go_quiet (first | (go_at_call 31; (with_reducible refine (gradineref20_All.calls k2 _ _ l0_1 zc _ ?s1 ?s2 A28.out).mono ?_); (case s1 => exact sC zf HB); (case s2 => exact zi.out); rintro e w30 ⟨z3, rfl, ho0, hb⟩; have zp := aM (Kd.N_lower (Kd.N_mono (ok' := fun k_ => k_ ≠ zh) ho0 (fun k_ hk_ => (Kd.freshB (g := zh) (pK za.out) k_ hk_))) (below_size (qB1 HB zb))); replace za := bK za hb; replace HB := bS (qB1 HB zb) hb; (try clear hb); (try clear hk); (try clear hi); (try clear ho0); obtain ⟨z1, zy, zt⟩ := Kd.N_slice zp.out; subst zt)); try go_wp2_with (first | (go_at_call 31; (with_reducible refine (gradineref20_All.calls k2 _ _ l0_1 zc _ ?s1 ?s2 A28.out).mono ?_); (case s1 => exact sC zf HB); (case s2 => exact zi.out); rintro e w30 ⟨z3, rfl, ho0, hb⟩; have zp := aM (Kd.N_lower (Kd.N_mono (ok' := fun k_ => k_ ≠ zh) ho0 (fun k_ hk_ => (Kd.freshB (g := zh) (pK za.out) k_ hk_))) (below_size (qB1 HB zb))); replace za := bK za hb; replace HB := bS (qB1 HB zb) hb; (try clear hb); (try clear hk); (try clear hi); (try clear ho0); obtain ⟨z1, zy, zt⟩ := Kd.N_slice zp.out; subst zt)))
     go_loopg [7, 76] k2 (fun kq v7 v76 w' => ∃ (x7_3 : List Int) (x76_3 : Int), v76 = .int .i64 x76_3 ∧ Aside0 (gradineref22_Cells.l1 kq a1 zc x7_3 (zc.length : Int) x76_3 a0_0 l0_1 l0_2 = some r) ∧ Aside0 (kq ≤ k2) ∧ Aside0 (Kd.N (Kd.slice 3 (Kd.int .i64)) 22 w' w.heap.size (fun k_ => some k_ ≠ (v7 : Value).ownBlock ∧ k_ ≠ zh) (.slice z1 zc.length zy) zc) ∧ Aside0 (Kd.R (Kd.int .i64) 3 w' w.heap.size (fun _ => True) v7 x7_3) ∧ Aside0 (w'.heap[zh]? = some (.cells #[.int .i64 a0_0, (.slice A0_1 l0_1.length c0_1), (.slice A0_2 l0_2.length c0_2)] 43 (0, 0))) ∧ Aside0 (Below w.heap.size w w'))
     case atStart => exact ⟨(([] : List Int)), (0), (pF), H', ⟨Nat.le_refl _⟩, ⟨by (with_reducible repeat (first | apply Kd.N_alloc | apply Kd.N_drewN | apply Kd.N_drew)); exact Kd.N_mono zp.out (fun _ hk => ⟨(by simp [Value.ownBlock]), hk⟩)⟩, ⟨pN⟩, ⟨pK za.out⟩, ⟨qB1 HB zb⟩⟩
     case round =>
      clear H'
      try clear zz
      try clear hcz29_0 hcz29_1 hcz29_2 hfz29_0 hfz29_1 hfz29_2
      obtain ⟨x7_3, x76_3, rfl, HA, HK3, zk, zm, za, HB⟩ := hrel
      cases gk with
      | zero => exact absurd HA.out (by simp [gradineref22_Cells.l1])
      | succ k3 =>
       have H := HA.out
       clear HA
       simp only [gradineref22_Cells.l1] at H
       by_cases c32 : x76_3 < (zc.length : Int)
       rotate_left
       ·rw [if_neg c32] at H
        have z0 : decide (x76_3 < (zc.length : Int)) = false := decide_eq_false c32
        clear c32
        obtain rfl := Option.some.inj H
        go_wp2
        repeat (go_quiet (fail); try go_wp2)
        go_ret
        exact ⟨_, pE, pR zm.out, qB1 HB zb⟩
       rw [if_pos c32] at H
       have z0 : decide (x76_3 < (zc.length : Int)) = true := decide_eq_true c32
       clear c32
       by_cases c33 : 0 ≤ x76_3
       rotate_left
       ·rw [if_neg c33] at H
        exact absurd H (by simp)
       rw [if_pos c33] at H
       have c33b0 : decide (0 ≤ x76_3) = true := decide_eq_true c33
       clear c33
       by_cases c34 : x76_3 < (zc.length : Int)
       rotate_left
       ·rw [if_neg c34] at H
        exact absurd H (by simp)
       rw [if_pos c34] at H
       have c34b0 : decide (x76_3 < (zc.length : Int)) = true := decide_eq_true c34
       clear c34
       have H' := aM H
       clear H
       obtain ⟨hcz35_0, hcz35_1, hcz35_2, hfz35_0, hfz35_1, hfz35_2⟩ := blk3 za.out
       have p254 : 0 ≤ (x76_3 : Int) := of_decide_eq_true pD
       have q254 : x76_3 < (zc.length : Int) := of_decide_eq_true pD
       obtain ⟨ad254, A254_0, c254_0, e254, hx254_0, hl254_0, hi254_0⟩ := at_L6 (Kd.N_reads' zk.out).2.2 x76_3 p254 q254
       cases e254
       obtain ⟨ce254, hce254, hMe254, hcc254⟩ := Kd.N_get zk.out [] x76_3 p254 (by first | exact q254 | exact of_decide_eq_true pD | (have e_ := (Kd.N_reads' zk.out).1; omega))
       obtain ⟨ua254_0, uc254_0, rfl, ul254_0, ge254_0⟩ := Kd.FK_slice_open hMe254
       have hv254_0 := hcc254 0 _ rfl
       rw [Nat.add_zero, show ((Kd.slice 3 (Kd.int .i64))).sz = 1 from rfl, Nat.mul_one] at hv254_0
       replace hv254_0 := Option.some.inj (hv254_0.symm.trans hx254_0)
       injection hv254_0 with hva_ hvn_ hvc_
       rw [hva_] at ge254_0
       rw [hvc_] at ul254_0
       have HL254_0 := aM (show Kd.V (Kd.int .i64) 3 _ w.heap.size _ _ (rd_L6 zc x76_3) from Kd.V_mk ul254_0 ge254_0)
       clear hva_ hvn_ hvc_ ge254_0 ul254_0
       clear hcc254 hce254
       have zl := aM hi254_0
       have HC254_0 := aM hl254_0
       clear hi254_0 hl254_0
       replace p254 := eq_true p254
       replace q254 := eq_true q254
       go_wp2
       repeat (go_quiet (fail); try go_wp2)
       go_loopg [9, 86] k3 (fun kq v9 v86 w' => ∃ (x9_4 : Int) (x86_4 : Int), v9 = .int .i64 x9_4 ∧ v86 = .int .i64 x86_4 ∧ Aside0 (gradineref22_Cells.l2 kq a1 zc x7_3 x76_3 x9_4 (zc.length : Int) x76_3 ((rd_L6 zc x76_3).length : Int) x86_4 a0_0 l0_1 l0_2 = some r) ∧ Aside0 (kq ≤ k3) ∧ Aside0 (Kd.N (Kd.slice 3 (Kd.int .i64)) 22 w' w.heap.size (fun k_ => some k_ ≠ (u7 : Value).ownBlock ∧ k_ ≠ zh) (.slice (some ad254) zc.length zy) zc) ∧ Aside0 (Kd.R (Kd.int .i64) 3 w' w.heap.size (fun _ => True) u7 x7_3) ∧ Aside0 (w'.heap[zh]? = some (.cells #[.int .i64 a0_0, (.slice A0_1 l0_1.length c0_1), (.slice A0_2 l0_2.length c0_2)] 43 (0, 0))) ∧ Aside0 (Kd.C (Kd.int .i64) w' A254_0 (rd_L6 zc x76_3).length (rd_L6 zc x76_3)) ∧ Aside0 (Below w.heap.size w w'))
       case atStart => exact ⟨(a0_0), (0), (pF), (pF), H', ⟨Nat.le_refl _⟩, ⟨by (with_reducible repeat (first | apply Kd.N_alloc | apply Kd.N_drewN | apply Kd.N_drew)); exact zk.out⟩, ⟨pR zm.out⟩, ⟨pK za.out⟩, ⟨by repeat (first | (with_reducible exact zl.out) | (with_reducible refine Kd.C_alloc ?_ _) | (with_reducible refine Kd.C_drewN ?_ _) | (with_reducible refine Kd.C_drew ?_) | exact zl.out)⟩, ⟨qB1 HB zb⟩⟩
       case round =>
        clear H'
        try clear z0
        try clear c33b0
        try clear c34b0
        try clear hcz35_0 hcz35_1 hcz35_2 hfz35_0 hfz35_1 hfz35_2
        try clear hx254_0
        try clear p254
        try clear q254
        obtain ⟨x9_4, x86_4, rfl, rfl, HA, HK4, zk, zm, za, zl, HB⟩ := hrel
        cases gk with
        | zero => exact absurd HA.out (by simp [gradineref22_Cells.l2])
        | succ k4 =>
         have H := HA.out
         clear HA
         simp only [gradineref22_Cells.l2] at H
         by_cases c36 : x86_4 < ((rd_L6 zc x76_3).length : Int)
         rotate_left
         ·rw [if_neg c36] at H
          have c36b0 : decide (x86_4 < ((rd_L6 zc x76_3).length : Int)) = false := decide_eq_false c36
          clear c36
          by_cases c44 : x9_4 < 0
          ·rw [if_pos c44] at H
           have c44b0 : decide (x9_4 < 0) = true := decide_eq_true c44
           clear c44
           obtain rfl := Option.some.inj H
           go_wp2
           repeat (go_quiet (fail); try go_wp2)
           go_ret
           exact ⟨_, pE, pN, qB1 HB zb⟩
          rw [if_neg c44] at H
          have c44b0 : decide (x9_4 < 0) = false := decide_eq_false c44
          clear c44
          by_cases c45 : x9_4 ≥ a1
          ·rw [if_pos c45] at H
           have c45b0 : decide (a1 ≤ x9_4) = true := decide_eq_true c45
           clear c45
           obtain rfl := Option.some.inj H
           go_wp2
           repeat (go_quiet (fail); try go_wp2)
           go_ret
           exact ⟨_, pE, pN, qB1 HB zb⟩
          rw [if_neg c45] at H
          have c45b0 : decide (a1 ≤ x9_4) = false := decide_eq_false c45
          clear c45
          by_cases c46 : x7_3.length < 17592186044416
          rotate_left
          ·rw [if_neg c46] at H
           exact absurd H (by simp)
          rw [if_pos c46] at H
          have zu := aM c46
          clear c46
          obtain ⟨z4, zv⟩ : ∃ y_ : List Int, y_ = (x7_3 ++ [x9_4]) := ⟨_, rfl⟩
          replace H : (gradineref22_Cells.l1 k4 a1 zc z4 (zc.length : Int) (wrap64 (x76_3 + 1)) a0_0 l0_1 l0_2) = some r := pH zv H
          have zw := aM zv
          clear zv
          have H' := aM H
          clear H
          go_wp2_with (first | ((with_reducible refine gate_builtin (b := .append) (xs := #[.tmp 120, .tmp 122]) rfl ?_); (try (refine gate_guard (by rfl) ?_; dsimp only)); at_builtin; refine Kd.R_append (Kd.int .i64) (w0 := w) w.heap.size rfl (.tmp 120) (.tmp 122) 22 3 (.int .i64 0) 8 rfl Try.underlying22 info3 rfl (by decide) (by omega) u7 x7_3 x9_4 [.int .i64 x9_4] (fun _ => True) (fun _ => False) rfl rfl ?aP (fun _ hk => hk.elim) ?aF ?aO ?aB ?aS ?aL ?_; (case aP => exact rfl); (case aB => exact (qB1 HB zb)); (case aF => exact (fun _ _ => trivial)); (case aO => exact (pR zm.out)); (case aS => exact (below_size (qB1 HB zb))); (case aL => have := zu.out; omega); intro z5 w47 ho hb hg hat; rw [← zw.out] at ho; replace zk := aM (Kd.N_afterv (ok := (fun k_ => k_ ≠ zh)) (by (with_reducible repeat (first | apply Kd.N_alloc | apply Kd.N_drewN | apply Kd.N_drew)); exact Kd.N_mono zk.out (fun _ hk => ⟨hk.2, hk.1⟩)) hg hat); replace za := aM (blk_grown (g := zh) (pK za.out) hg (Kd.R_ne zm.out za.out (by decide))); replace HB := aM (hb); have zx := aM (ho); clear zm; clear ho hb hg hat))
          repeat (go_quiet (first | ((with_reducible refine gate_builtin (b := .append) (xs := #[.tmp 120, .tmp 122]) rfl ?_); (try (refine gate_guard (by rfl) ?_; dsimp only)); at_builtin; refine Kd.R_append (Kd.int .i64) (w0 := w) w.heap.size rfl (.tmp 120) (.tmp 122) 22 3 (.int .i64 0) 8 rfl Try.underlying22 info3 rfl (by decide) (by omega) u7 x7_3 x9_4 [.int .i64 x9_4] (fun _ => True) (fun _ => False) rfl rfl ?aP (fun _ hk => hk.elim) ?aF ?aO ?aB ?aS ?aL ?_; (case aP => exact rfl); (case aB => exact (qB1 HB zb)); (case aF => exact (fun _ _ => trivial)); (case aO => exact (pR zm.out)); (case aS => exact (below_size (qB1 HB zb))); (case aL => have := zu.out; omega); intro z5 w47 ho hb hg hat; rw [← zw.out] at ho; replace zk := aM (Kd.N_afterv (ok := (fun k_ => k_ ≠ zh)) (by (with_reducible repeat (first | apply Kd.N_alloc | apply Kd.N_drewN | apply Kd.N_drew)); exact Kd.N_mono zk.out (fun _ hk => ⟨hk.2, hk.1⟩)) hg hat); replace za := aM (blk_grown (g := zh) (pK za.out) hg (Kd.R_ne zm.out za.out (by decide))); replace HB := aM (hb); have zx := aM (ho); clear zm; clear ho hb hg hat)); try go_wp2_with (first | ((with_reducible refine gate_builtin (b := .append) (xs := #[.tmp 120, .tmp 122]) rfl ?_); (try (refine gate_guard (by rfl) ?_; dsimp only)); at_builtin; refine Kd.R_append (Kd.int .i64) (w0 := w) w.heap.size rfl (.tmp 120) (.tmp 122) 22 3 (.int .i64 0) 8 rfl Try.underlying22 info3 rfl (by decide) (by omega) u7 x7_3 x9_4 [.int .i64 x9_4] (fun _ => True) (fun _ => False) rfl rfl ?aP (fun _ hk => hk.elim) ?aF ?aO ?aB ?aS ?aL ?_; (case aP => exact rfl); (case aB => exact (qB1 HB zb)); (case aF => exact (fun _ _ => trivial)); (case aO => exact (pR zm.out)); (case aS => exact (below_size (qB1 HB zb))); (case aL => have := zu.out; omega); intro z5 w47 ho hb hg hat; rw [← zw.out] at ho; replace zk := aM (Kd.N_afterv (ok := (fun k_ => k_ ≠ zh)) (by (with_reducible repeat (first | apply Kd.N_alloc | apply Kd.N_drewN | apply Kd.N_drew)); exact Kd.N_mono zk.out (fun _ hk => ⟨hk.2, hk.1⟩)) hg hat); replace za := aM (blk_grown (g := zh) (pK za.out) hg (Kd.R_ne zm.out za.out (by decide))); replace HB := aM (hb); have zx := aM (ho); clear zm; clear ho hb hg hat)))
          go_roundg k4
          case measure => have := HJ2.out; have := HK2.out; have := HK3.out; have := HK4.out; omega
          case rel => exact ⟨(z4), (wrap64 (x76_3 + 1)), (pF), H', ⟨by have := HJ2.out; have := HK2.out; have := HK3.out; have := HK4.out; omega⟩, ⟨by (with_reducible repeat (first | apply Kd.N_alloc | apply Kd.N_drewN | apply Kd.N_drew)); exact Kd.N_mono zk.out (fun _ hk => ⟨hk.2, hk.1⟩)⟩, ⟨pR zx.out⟩, ⟨pK za.out⟩, ⟨qB1 HB zb⟩⟩
         rw [if_pos c36] at H
         have c36b0 : decide (x86_4 < ((rd_L6 zc x76_3).length : Int)) = true := decide_eq_true c36
         clear c36
         by_cases c37 : 0 ≤ x76_3
         rotate_left
         ·rw [if_neg c37] at H
          exact absurd H (by simp)
         rw [if_pos c37] at H
         have c37b0 : decide (0 ≤ x76_3) = true := decide_eq_true c37
         clear c37
         by_cases c38 : x76_3 < (zc.length : Int)
         rotate_left
         ·rw [if_neg c38] at H
          exact absurd H (by simp)
         rw [if_pos c38] at H
         have c38b0 : decide (x76_3 < (zc.length : Int)) = true := decide_eq_true c38
         clear c38
         by_cases c39 : 0 ≤ x86_4
         rotate_left
         ·rw [if_neg c39] at H
          exact absurd H (by simp)
         rw [if_pos c39] at H
         have c39b0 : decide (0 ≤ x86_4) = true := decide_eq_true c39
         clear c39
         by_cases c40 : x86_4 < ((rd_L6 zc x76_3).length : Int)
         rotate_left
         ·rw [if_neg c40] at H
          exact absurd H (by simp)
         rw [if_pos c40] at H
         have c40b0 : decide (x86_4 < ((rd_L6 zc x76_3).length : Int)) = true := decide_eq_true c40
         clear c40
         by_cases c41 : (rd (rd_L6 zc x76_3) x86_4) > 0
         rotate_left
         ·rw [if_neg c41] at H
          have c41b0 : decide (0 < (rd (rd_L6 zc x76_3) x86_4)) = false := decide_eq_false c41
          clear c41
          have H' := aM H
          clear H
          have p255 : 0 ≤ (x76_3 : Int) := of_decide_eq_true pD
          have q255 : x76_3 < (zc.length : Int) := of_decide_eq_true pD
          obtain ⟨ad255, A255_0, c255_0, e255, hx255_0, hl255_0, hi255_0⟩ := at_L6 (Kd.N_reads' zk.out).2.2 x76_3 p255 q255
          obtain rfl : ad254 = ad255 := (by injection e255)
          obtain ⟨ce255, hce255, hMe255, hcc255⟩ := Kd.N_get zk.out [] x76_3 p255 (by first | exact q255 | exact of_decide_eq_true pD | (have e_ := (Kd.N_reads' zk.out).1; omega))
          obtain ⟨ua255_0, uc255_0, rfl, ul255_0, ge255_0⟩ := Kd.FK_slice_open hMe255
          have hv255_0 := hcc255 0 _ rfl
          rw [Nat.add_zero, show ((Kd.slice 3 (Kd.int .i64))).sz = 1 from rfl, Nat.mul_one] at hv255_0
          replace hv255_0 := Option.some.inj (hv255_0.symm.trans hx255_0)
          injection hv255_0 with hva_ hvn_ hvc_
          rw [hva_] at ge255_0
          rw [hvc_] at ul255_0
          have HL255_0 := aM (show Kd.V (Kd.int .i64) 3 _ w.heap.size _ _ (rd_L6 zc x76_3) from Kd.V_mk ul255_0 ge255_0)
          clear hva_ hvn_ hvc_ ge255_0 ul255_0
          clear hcc255 hce255
          have zn := aM hi255_0
          have HC255_0 := aM hl255_0
          clear hi255_0 hl255_0
          replace p255 := eq_true p255
          replace q255 := eq_true q255
          have p256 : 0 ≤ (x86_4 : Int) := of_decide_eq_true pD
          have q256 : x86_4 < ((rd_L6 zc x76_3).length : Int) := of_decide_eq_true pD
          obtain ⟨ad256, e256, hx256_0⟩ := Kd.at_int (by repeat (first | (with_reducible exact zn.out) | (with_reducible refine Kd.C_alloc ?_ _) | (with_reducible refine Kd.C_drewN ?_ _) | (with_reducible refine Kd.C_drew ?_) | exact zn.out)) x86_4 p256 q256
          cases e256
          replace p256 := eq_true p256
          replace q256 := eq_true q256
          go_wp2
          repeat (go_quiet (fail); try go_wp2)
          go_roundg k4
          case measure => have := HJ2.out; have := HK2.out; have := HK3.out; have := HK4.out; omega
          case rel => exact ⟨(x9_4), (wrap64 (x86_4 + 1)), (pF), (pF), H', ⟨by have := HJ2.out; have := HK2.out; have := HK3.out; have := HK4.out; omega⟩, ⟨by (with_reducible repeat (first | apply Kd.N_alloc | apply Kd.N_drewN | apply Kd.N_drew)); exact zk.out⟩, ⟨pR zm.out⟩, ⟨pK za.out⟩, ⟨by repeat (first | (with_reducible exact zl.out) | (with_reducible refine Kd.C_alloc ?_ _) | (with_reducible refine Kd.C_drewN ?_ _) | (with_reducible refine Kd.C_drew ?_) | exact zl.out)⟩, ⟨qB1 HB zb⟩⟩
         rw [if_pos c41] at H
         have c41b0 : decide (0 < (rd (rd_L6 zc x76_3) x86_4)) = true := decide_eq_true c41
         clear c41
         by_cases c42 : x86_4 < (l0_2.length : Int)
         rotate_left
         ·rw [if_neg c42] at H
          exact absurd H (by simp)
         rw [if_pos c42] at H
         have c42b0 : decide (x86_4 < (l0_2.length : Int)) = true := decide_eq_true c42
         clear c42
         have H' := aM H
         clear H
         have p255 : 0 ≤ (x76_3 : Int) := of_decide_eq_true pD
         have q255 : x76_3 < (zc.length : Int) := of_decide_eq_true pD
         obtain ⟨ad255, A255_0, c255_0, e255, hx255_0, hl255_0, hi255_0⟩ := at_L6 (Kd.N_reads' zk.out).2.2 x76_3 p255 q255
         obtain rfl : ad254 = ad255 := (by injection e255)
         obtain ⟨ce255, hce255, hMe255, hcc255⟩ := Kd.N_get zk.out [] x76_3 p255 (by first | exact q255 | exact of_decide_eq_true pD | (have e_ := (Kd.N_reads' zk.out).1; omega))
         obtain ⟨ua255_0, uc255_0, rfl, ul255_0, ge255_0⟩ := Kd.FK_slice_open hMe255
         have hv255_0 := hcc255 0 _ rfl
         rw [Nat.add_zero, show ((Kd.slice 3 (Kd.int .i64))).sz = 1 from rfl, Nat.mul_one] at hv255_0
         replace hv255_0 := Option.some.inj (hv255_0.symm.trans hx255_0)
         injection hv255_0 with hva_ hvn_ hvc_
         rw [hva_] at ge255_0
         rw [hvc_] at ul255_0
         have HL255_0 := aM (show Kd.V (Kd.int .i64) 3 _ w.heap.size _ _ (rd_L6 zc x76_3) from Kd.V_mk ul255_0 ge255_0)
         clear hva_ hvn_ hvc_ ge255_0 ul255_0
         clear hcc255 hce255
         have zn := aM hi255_0
         have HC255_0 := aM hl255_0
         clear hi255_0 hl255_0
         replace p255 := eq_true p255
         replace q255 := eq_true q255
         have p256 : 0 ≤ (x86_4 : Int) := of_decide_eq_true pD
         have q256 : x86_4 < ((rd_L6 zc x76_3).length : Int) := of_decide_eq_true pD
         obtain ⟨ad256, e256, hx256_0⟩ := Kd.at_int (by repeat (first | (with_reducible exact zn.out) | (with_reducible refine Kd.C_alloc ?_ _) | (with_reducible refine Kd.C_drewN ?_ _) | (with_reducible refine Kd.C_drew ?_) | exact zn.out)) x86_4 p256 q256
         cases e256
         replace p256 := eq_true p256
         replace q256 := eq_true q256
         have p257 : 0 ≤ (x76_3 : Int) := of_decide_eq_true pD
         have q257 : x76_3 < (zc.length : Int) := of_decide_eq_true pD
         obtain ⟨ad257, A257_0, c257_0, e257, hx257_0, hl257_0, hi257_0⟩ := at_L6 (Kd.N_reads' zk.out).2.2 x76_3 p257 q257
         obtain rfl : ad254 = ad257 := (by injection e257)
         obtain ⟨ce257, hce257, hMe257, hcc257⟩ := Kd.N_get zk.out [] x76_3 p257 (by first | exact q257 | exact of_decide_eq_true pD | (have e_ := (Kd.N_reads' zk.out).1; omega))
         obtain ⟨ua257_0, uc257_0, rfl, ul257_0, ge257_0⟩ := Kd.FK_slice_open hMe257
         have hv257_0 := hcc257 0 _ rfl
         rw [Nat.add_zero, show ((Kd.slice 3 (Kd.int .i64))).sz = 1 from rfl, Nat.mul_one] at hv257_0
         replace hv257_0 := Option.some.inj (hv257_0.symm.trans hx257_0)
         injection hv257_0 with hva_ hvn_ hvc_
         rw [hva_] at ge257_0
         rw [hvc_] at ul257_0
         have HL257_0 := aM (show Kd.V (Kd.int .i64) 3 _ w.heap.size _ _ (rd_L6 zc x76_3) from Kd.V_mk ul257_0 ge257_0)
         clear hva_ hvn_ hvc_ ge257_0 ul257_0
         clear hcc257 hce257
         have zr := aM hi257_0
         have HC257_0 := aM hl257_0
         clear hi257_0 hl257_0
         replace p257 := eq_true p257
         replace q257 := eq_true q257
         have ea_ := Option.some.inj (hx255_0.symm.trans hx257_0)
         injection ea_ with ea_ en_ ec_
         subst ea_
         subst ec_
         clear en_
         have p258 : 0 ≤ (x86_4 : Int) := of_decide_eq_true pD
         have q258 : x86_4 < ((rd_L6 zc x76_3).length : Int) := of_decide_eq_true pD
         obtain ⟨ad258, e258, hx258_0⟩ := Kd.at_int (by repeat (first | (with_reducible exact zr.out) | (with_reducible refine Kd.C_alloc ?_ _) | (with_reducible refine Kd.C_drewN ?_ _) | (with_reducible refine Kd.C_drew ?_) | exact zr.out)) x86_4 p258 q258
         cases e258
         replace p258 := eq_true p258
         replace q258 := eq_true q258
         obtain ⟨hcz43_0, hcz43_1, hcz43_2, hfz43_0, hfz43_1, hfz43_2⟩ := blk3 za.out
         have p259 : 0 ≤ (x86_4 : Int) := of_decide_eq_true pD
         have q259 : x86_4 < (l0_2.length : Int) := of_decide_eq_true pD
         obtain ⟨ad259, e259, hx259_0⟩ := Kd.at_int zo.out x86_4 p259 q259
         cases e259
         replace hx259_0 := (HB.out.cell (World.block_lt_of_cell? w _ hx259_0)).trans hx259_0
         replace p259 := eq_true p259
         replace q259 := eq_true q259
         go_wp2
         repeat (go_quiet (fail); try go_wp2)
         go_roundg k4
         case measure => have := HJ2.out; have := HK2.out; have := HK3.out; have := HK4.out; omega
         case rel => exact ⟨(wrap64 (x9_4 + (wrap64 ((rd (rd_L6 zc x76_3) x86_4) * (rd l0_2 x86_4))))), (wrap64 (x86_4 + 1)), (pF), (pF), H', ⟨by have := HJ2.out; have := HK2.out; have := HK3.out; have := HK4.out; omega⟩, ⟨by (with_reducible repeat (first | apply Kd.N_alloc | apply Kd.N_drewN | apply Kd.N_drew)); exact zk.out⟩, ⟨pR zm.out⟩, ⟨pK za.out⟩, ⟨by repeat (first | (with_reducible exact zl.out) | (with_reducible refine Kd.C_alloc ?_ _) | (with_reducible refine Kd.C_drewN ?_ _) | (with_reducible refine Kd.C_drew ?_) | exact zl.out)⟩, ⟨qB1 HB zb⟩⟩
def gradineref23_Meet.l0 : Nat → List Int → List Int → Int → Int → Option (Bool)
 | 0, _, _, _, _ => none
 | k + 1, x0, x1, x7, x8 => if x8 < x7 then (if 0 ≤ x8 then (if x8 < (x0.length : Int) then ((gradineref19_Has.f k x1 (rd x0 x8)).bind fun za => (if za = true then (some true) else (gradineref23_Meet.l0 k x0 x1 x7 (wrap64 (x8 + 1))))) else (none)) else (none)) else (some false)
def gradineref23_Meet.f (k : Nat) (l0 : List Int) (l1 : List Int) : Option (Bool) := gradineref23_Meet.l0 k l0 l1 (l0.length : Int) 0
set_option maxHeartbeats 8000000 in
set_option maxRecDepth 100000 in
theorem gradineref23_Meet.calls (k : Nat) (A0 : Option Addr) (c0 : Nat) (l0 : List Int) (A1 : Option Addr) (c1 : Nat) (l1 : List Int) (r : Bool) (w : World) (hr0 : Kd.C (Kd.int .i64) w A0 l0.length l0) (hc0 : l0.length ≤ c0) (hr1 : Kd.C (Kd.int .i64) w A1 l1.length l1) (hc1 : l1.length ≤ c1) (h : gradineref23_Meet.f k l0 l1 = some r) :
  Calls Try.prog 15 #[.slice A0 l0.length c0, .slice A1 l1.length c1] w fun e w' => e = .returned (.bool r) ∧ Drawn0 w w' := by
 have HR0 := aM hr0
 have HC0 := aM hc0
 clear hr0 hc0
 have HR1 := aM hr1
 have HC1 := aM hc1
 clear hr1 hc1
 have H : (gradineref23_Meet.l0 k l0 l1 (l0.length : Int) 0) = some r := h
 clear h
 have H' := aM H
 clear H
 go_enter Try.func15, Try.ntmps15
 go_wp2
 go_loopg [8] k (fun kq v8 w' => ∃ (x8_1 : Int), v8 = .int .i64 x8_1 ∧ Aside0 (gradineref23_Meet.l0 kq l0 l1 (l0.length : Int) x8_1 = some r) ∧ Aside0 (kq ≤ k) ∧ Drawn0 w w')
 case atStart => exact ⟨(0), (pF), H', ⟨Nat.le_refl _⟩, by repeat (first | exact Drawn0.refl _ | apply Drawn0.step)⟩
 case round =>
  clear H'
  try clear c1
  obtain ⟨x8_1, rfl, HA, HK1, ⟨m1, rfl⟩⟩ := hrel
  cases gk with
  | zero => exact absurd HA.out (by simp [gradineref23_Meet.l0])
  | succ k1 =>
   have H := HA.out
   clear HA
   simp only [gradineref23_Meet.l0] at H
   by_cases c3 : x8_1 < (l0.length : Int)
   rotate_left
   ·rw [if_neg c3] at H
    have c3b0 : decide (x8_1 < (l0.length : Int)) = false := decide_eq_false c3
    clear c3
    obtain rfl := Option.some.inj H
    go_wp2
    go_ret
    exact ⟨pF, by repeat (first | exact Drawn0.refl _ | apply Drawn0.step)⟩
   rw [if_pos c3] at H
   have c3b0 : decide (x8_1 < (l0.length : Int)) = true := decide_eq_true c3
   clear c3
   by_cases c4 : 0 ≤ x8_1
   rotate_left
   ·rw [if_neg c4] at H
    exact absurd H (by simp)
   rw [if_pos c4] at H
   have c4b0 : decide (0 ≤ x8_1) = true := decide_eq_true c4
   clear c4
   by_cases c5 : x8_1 < (l0.length : Int)
   rotate_left
   ·rw [if_neg c5] at H
    exact absurd H (by simp)
   rw [if_pos c5] at H
   have c5b0 : decide (x8_1 < (l0.length : Int)) = true := decide_eq_true c5
   clear c5
   replace H := Option.bind_eq_some_iff.mp H
   obtain ⟨za, A60, H⟩ := H
   try dsimp only at H
   have A6 := aM A60
   clear A60
   by_cases c7 : za = true
   ·subst c7
    rw [if_pos rfl] at H
    obtain rfl := Option.some.inj H
    have p264 : 0 ≤ (x8_1 : Int) := of_decide_eq_true pD
    have q264 : x8_1 < (l0.length : Int) := of_decide_eq_true pD
    obtain ⟨ad264, e264, hx264_0⟩ := Kd.at_int HR0.out x8_1 p264 q264
    cases e264
    replace p264 := eq_true p264
    replace q264 := eq_true q264
    go_wp2_with (first | ((with_reducible refine gate_callee (f := 36) rfl ?_); refine goesL_ (some 16) rfl rfl Try.func36 (by kernel_rfl) rfl #[.slice A1 l1.length c1, .int .i64 (rd l0 x8_1)] rfl pA ?_; (with_reducible refine (gradineref19_Has.calls k1 _ _ l1 (rd l0 x8_1) true _ ?s1 ?s2 A6.out).mono ?_); (case s1 => exact pC HR1.out); (case s2 => exact HC1.out); rintro e w' ⟨rfl, ⟨nd, rfl⟩⟩; refine ⟨_, rfl, ?_⟩))
    go_ret
    exact ⟨pF, by repeat (first | exact Drawn0.refl _ | apply Drawn0.step)⟩
   replace c7 := Bool.eq_false_iff.mpr c7
   subst c7
   rw [if_neg (show ¬ (false = true) by decide)] at H
   have H' := aM H
   clear H
   have p264 : 0 ≤ (x8_1 : Int) := of_decide_eq_true pD
   have q264 : x8_1 < (l0.length : Int) := of_decide_eq_true pD
   obtain ⟨ad264, e264, hx264_0⟩ := Kd.at_int HR0.out x8_1 p264 q264
   cases e264
   replace p264 := eq_true p264
   replace q264 := eq_true q264
   go_wp2_with (first | ((with_reducible refine gate_callee (f := 36) rfl ?_); refine goesL_ (some 16) rfl rfl Try.func36 (by kernel_rfl) rfl #[.slice A1 l1.length c1, .int .i64 (rd l0 x8_1)] rfl pA ?_; (with_reducible refine (gradineref19_Has.calls k1 _ _ l1 (rd l0 x8_1) false _ ?s1 ?s2 A6.out).mono ?_); (case s1 => exact pC HR1.out); (case s2 => exact HC1.out); rintro e w' ⟨rfl, ⟨nd, rfl⟩⟩; refine ⟨_, rfl, ?_⟩))
   go_roundg k1
   case measure => have := HK1.out; omega
   case rel => exact ⟨(wrap64 (x8_1 + 1)), (pF), H', ⟨by have := HK1.out; omega⟩, by repeat (first | exact Drawn0.refl _ | apply Drawn0.step)⟩
def shape_Steps.l0 : Nat → List Int → List Int → Int → Int → Option (List Int)
 | 0, _, _, _, _ => none
 | k + 1, x0, x3, x4, x5 => if x5 ≥ 0 then (if 0 ≤ x5 then (if x5 < (x3.length : Int) then (if x5 < (x0.length : Int) then (shape_Steps.l0 k x0 (x3.set (x5 : Int).toNat x4) (wrap64 (x4 * (rd x0 x5))) (wrap64 (x5 - 1))) else (none)) else (none)) else (none)) else (some x3)
def shape_Steps.f (k : Nat) (l0 : List Int) : Option (List Int) := (shape_Check.f l0).bind fun za => (if za = 0 then (if 0 ≤ (l0.length : Int) then (if ((l0.length : Int) : Int).toNat ≤ 35184372088832 then (shape_Steps.l0 k l0 (List.replicate ((l0.length : Int) : Int).toNat 0) 1 (wrap64 ((l0.length : Int) - 1))) else (none)) else (none)) else (some ([] : List Int)))
set_option maxHeartbeats 8000000 in
set_option maxRecDepth 100000 in
theorem shape_Steps.calls (k : Nat) (A0 : Option Addr) (c0 : Nat) (l0 : List Int) (r : List Int) (w : World) (hr0 : Kd.C (Kd.int .i64) w A0 l0.length l0) (hc0 : l0.length ≤ c0) (h : shape_Steps.f k l0 = some r) :
  Calls Try.prog 45 #[.slice A0 l0.length c0] w fun e w' => ∃ v0_ : Value, e = .returned (v0_) ∧ Kd.R (Kd.int .i64) 3 w' w.heap.size (fun _ => True) v0_ r ∧ Below w.heap.size w w' := by
 have HR0 := aM hr0
 have HC0 := aM hc0
 clear hr0 hc0
 have HB := aM (Below.refl w.heap.size w)
 have H : ((shape_Check.f l0).bind fun za => (if za = 0 then (if 0 ≤ (l0.length : Int) then (if ((l0.length : Int) : Int).toNat ≤ 35184372088832 then (shape_Steps.l0 k l0 (List.replicate ((l0.length : Int) : Int).toNat 0) 1 (wrap64 ((l0.length : Int) - 1))) else (none)) else (none)) else (some ([] : List Int)))) = some r := h
 clear h
 replace H := Option.bind_eq_some_iff.mp H
 obtain ⟨za, A20, H⟩ := H
 try dsimp only at H
 have A2 := aM A20
 clear A20
 by_cases c3 : za = 0
 rotate_left
 ·rw [if_neg c3] at H
  have zg : (za == 0) = false := beq_eq_false_iff_ne.mpr c3
  have zh : (za != 0) = true := bne_iff_ne.mpr c3
  obtain rfl := Option.some.inj H
  go_enter Try.func45, Try.ntmps45
  go_wp2_with (first | ((with_reducible refine gate_callee (f := 27) rfl ?_); refine goesL_ (some 7) rfl rfl Try.func27 (by kernel_rfl) rfl #[.slice A0 l0.length c0] rfl pA ?_; (with_reducible refine (shape_Check.calls _ _ l0 za _ ?s1 ?s2 A2.out).mono ?_); (case s1 => exact pC HR0.out); (case s2 => exact HC0.out); rintro e w' ⟨rfl, ⟨nd, rfl⟩⟩; refine ⟨_, rfl, ?_⟩))
  go_ret
  exact ⟨_, pE, pN, qB HB⟩
 rw [if_pos c3] at H
 have zg : (za == 0) = true := beq_iff_eq.mpr c3
 have zh : (za != 0) = false := bne_eq_false_iff_eq.mpr c3
 clear c3
 by_cases c4 : 0 ≤ (l0.length : Int)
 rotate_left
 ·rw [if_neg c4] at H
  exact absurd H (by simp)
 rw [if_pos c4] at H
 have c4b0 := eq_true c4
 have c4b1 : decide (0 ≤ (l0.length : Int)) = true := decide_eq_true c4
 clear c4
 by_cases c5 : ((l0.length : Int) : Int).toNat ≤ 35184372088832
 rotate_left
 ·rw [if_neg c5] at H
  exact absurd H (by simp)
 rw [if_pos c5] at H
 have c5b0 := eq_true c5
 have c5b1 : decide (((l0.length : Int) : Int).toNat ≤ 35184372088832) = true := decide_eq_true c5
 clear c5
 obtain ⟨zi, zc⟩ : ∃ y_ : List Int, y_ = (List.replicate ((l0.length : Int) : Int).toNat 0) := ⟨_, rfl⟩
 replace H : (shape_Steps.l0 k l0 zi 1 (wrap64 ((l0.length : Int) - 1))) = some r := pH zc H
 have ze := aM zc
 clear zc
 have H' := aM H
 clear H
 go_enter Try.func45, Try.ntmps45
 go_wp2_with (first | ((with_reducible refine gate_callee (f := 27) rfl ?_); refine goesL_ (some 7) rfl rfl Try.func27 (by kernel_rfl) rfl #[.slice A0 l0.length c0] rfl pA ?_; (with_reducible refine (shape_Check.calls _ _ l0 za _ ?s1 ?s2 A2.out).mono ?_); (case s1 => exact pC HR0.out); (case s2 => exact HC0.out); rintro e w' ⟨rfl, ⟨nd, rfl⟩⟩; refine ⟨_, rfl, ?_⟩) | ((with_reducible refine gate_dst (N := 11) rfl ?_); refine Kd.R_make (Kd.int .i64) _ 3 rfl (N := 11) rfl 22 _ _ rfl (l0.length : Int) rfl rfl Try.underlying22 (.int .i64 0) 8 info3 rfl (by decide) (by omega) 0 (ok := fun _ => True) (okp := fun _ => True) rfl (fun _ hk => hk) trivial (of_decide_eq_true pD) (Nat.le_trans (Nat.mul_le_mul_right _ (of_decide_eq_true pD : (l0.length : Int).toNat ≤ 35184372088832)) (by omega)) (Below.refl _ _) (Nat.le_refl _) ?_; intro v155 w6 ho7 hb hg_ hnew_; clear hg_ hnew_; (first | rw [← ze.out] at ho7 | (simp only [Int.reduceToNat] at ho7; rw [← ze.out] at ho7)); have HO156 := aM (Kd.R_lower ho7 (below_size (qB HB))); replace HB := bS (qB HB) hb; clear hb ho7))
 go_loopg [4, 5] k (fun kq v4 v5 w' => ∃ (x3_1 : List Int) (x4_1 : Int) (x5_1 : Int), v4 = .int .i64 x4_1 ∧ v5 = .int .i64 x5_1 ∧ Aside0 (shape_Steps.l0 kq l0 x3_1 x4_1 x5_1 = some r) ∧ Aside0 (kq ≤ k) ∧ Aside0 (Kd.R (Kd.int .i64) 3 w' w.heap.size (fun _ => True) v155 x3_1) ∧ Aside0 (Below w.heap.size w w'))
 case atStart => exact ⟨(zi), (1), (wrap64 ((l0.length : Int) - 1)), (pF), (pF), H', ⟨Nat.le_refl _⟩, ⟨pR HO156.out⟩, ⟨qB HB⟩⟩
 case round =>
  clear H'
  try clear zg
  try clear zh
  try clear c4b0
  try clear c4b1
  try clear c5b0
  try clear c5b1
  obtain ⟨x3_1, x4_1, x5_1, rfl, rfl, HA, HK1, zb, HB⟩ := hrel
  cases gk with
  | zero => exact absurd HA.out (by simp [shape_Steps.l0])
  | succ k1 =>
   have H := HA.out
   clear HA
   simp only [shape_Steps.l0] at H
   by_cases c8 : x5_1 ≥ 0
   rotate_left
   ·rw [if_neg c8] at H
    have c8b0 : decide (0 ≤ x5_1) = false := decide_eq_false c8
    clear c8
    obtain rfl := Option.some.inj H
    go_wp2
    go_ret
    exact ⟨_, pE, pR zb.out, qB HB⟩
   rw [if_pos c8] at H
   have c8b0 : decide (0 ≤ x5_1) = true := decide_eq_true c8
   clear c8
   by_cases c9 : 0 ≤ x5_1
   rotate_left
   ·rw [if_neg c9] at H
    exact absurd H (by simp)
   rw [if_pos c9] at H
   have c9b0 : decide (0 ≤ x5_1) = true := decide_eq_true c9
   clear c9
   by_cases c10 : x5_1 < (x3_1.length : Int)
   rotate_left
   ·rw [if_neg c10] at H
    exact absurd H (by simp)
   rw [if_pos c10] at H
   have c10b0 : decide (x5_1 < (x3_1.length : Int)) = true := decide_eq_true c10
   clear c10
   obtain ⟨zf, zd⟩ : ∃ y_ : List Int, y_ = (x3_1.set (x5_1 : Int).toNat x4_1) := ⟨_, rfl⟩
   replace H : (if x5_1 < (l0.length : Int) then (shape_Steps.l0 k1 l0 zf (wrap64 (x4_1 * (rd l0 x5_1))) (wrap64 (x5_1 - 1))) else (none)) = some r := pH zd H
   have Ny157 := aM zd
   clear zd
   by_cases c12 : x5_1 < (l0.length : Int)
   rotate_left
   ·rw [if_neg c12] at H
    exact absurd H (by simp)
   rw [if_pos c12] at H
   have c12b0 : decide (x5_1 < (l0.length : Int)) = true := decide_eq_true c12
   clear c12
   have H' := aM H
   clear H
   have p11 : 0 ≤ (x5_1 : Int) := of_decide_eq_true pD
   have q11 : (x5_1 : Int) < ((x3_1.length : Int) : Int) := of_decide_eq_true pD
   obtain ⟨go11, co11, zj, zk, gl11, cl11, HG11⟩ := Kd.R_form zb.out (by omega)
   (first | cases zj | (injection zj with ea_ en_ ec_; (first | subst ea_ | (injection ea_ with ea_; subst ea_)); subst ec_; clear en_))
   have GB11 := aM zk
   have GG11 := aM HG11
   clear zk gl11 HG11
   obtain ⟨hx11_0, hf11_0⟩ := Kd.R_celln 0 zb.out (x5_1 : Int) p11 q11
   replace p11 := eq_true p11
   replace q11 := eq_true q11
   have HP13 := Kd.R_putg zb.out (x5_1 : Int) x4_1
   go_wp2_with (first | ((with_reducible refine gate_store (t := 3) (p := 22) rfl ?_); refine store_event (t := 3) (p := 22) (v := ?vo_w14) (w1 := (wr.setCell ⟨go11, (x5_1 : Int).toNat, none⟩ (.int .i64 x4_1))) ?hg ?ho ?hn ?hr ?_; (case ho => rfl); (case hg => rfl); (case hn => rfl); (case hr => first | (go_simp; done) | (go_simp; rfl)); intro w14 hw; have hg : wr.grownBy w14 (some go11) := (by rw [hw]; exact HP13.2); have hp_ : Kd.R (Kd.int .i64) 3 w14 w.heap.size (fun _ => True) (.slice (some ⟨go11, 0, none⟩) x3_1.length co11) zf := (by rw [hw, Ny157.out]; exact HP13.1); clear HP13; replace zb := aM (hp_); replace HB := aM ((by rw [hw]; exact below_set (HB.out) GB11.out : Below w.heap.size w w14)); clear hg hw hp_; have p158 : 0 ≤ (x5_1 : Int) := of_decide_eq_true pD; have q158 : x5_1 < (l0.length : Int) := of_decide_eq_true pD; obtain ⟨ad158, e158, hx158_0⟩ := Kd.at_int HR0.out x5_1 p158 q158; cases e158; replace hx158_0 := (HB.out.cell (World.block_lt_of_cell? w _ hx158_0)).trans hx158_0; replace p158 := eq_true p158; replace q158 := eq_true q158))
   go_roundg k1
   case measure => have := HK1.out; omega
   case rel => exact ⟨(zf), (wrap64 (x4_1 * (rd l0 x5_1))), (wrap64 (x5_1 - 1)), (pF), (pF), H', ⟨by have := HK1.out; omega⟩, ⟨pR zb.out⟩, ⟨qB HB⟩⟩
def slices_Clone_int_int.f (l0 : List Int) : Option (List Int) := if l0.length < 17592186044416 then some l0 else none
set_option maxHeartbeats 1000000 in
set_option maxRecDepth 100000 in
theorem slices_Clone_int_int.calls (A0 : Option Addr) (c0 : Nat) (l0 : List Int) (r1 : List Int) (w : World) (hr0 : Kd.C (Kd.int .i64) w A0 l0.length l0) (hc0 : l0.length ≤ c0) (h : slices_Clone_int_int.f l0 = some r1) :
    Calls Try.prog 34 #[.slice A0 l0.length c0] w fun e w' => ∃ v0_ : Value, e = .returned v0_ ∧ Kd.R (Kd.int .i64) 3 w' w.heap.size (fun _ => True) v0_ r1 ∧ Below w.heap.size w w' := by
  unfold slices_Clone_int_int.f at h
  split at h
  · rename_i hlen
    obtain rfl := Option.some.inj h
    clear h
    have LM := Aside0.mk hlen
    clear hlen
    have HB := Aside0.mk (Below.refl w.heap.size w)
    cases A0 with
    | none =>
      have hz : l0.length = 0 := by
        rcases Nat.eq_zero_or_pos l0.length with h0 | h0
        · exact h0
        · obtain ⟨ad, e, _⟩ := Kd.at_int hr0 0 (by omega) (by omega)
          cases e
      obtain rfl : l0 = [] := List.eq_nil_of_length_eq_zero hz
      clear hz hr0 hc0
      have hnil := fun (W : World) => Lib.run_eql_slice_nil (P := Try.prog) W 22 3 none 0 c0 0 0 Try.underlying22
      go_enter Try.func34, Try.ntmps34
      go_wp2
      go_ret
      exact ⟨_, rfl, Kd.R_nil _ _ _ _ _, HB.out⟩
    | some ad =>
      have hnil := fun (W : World) => Lib.run_eql_slice_nil (P := Try.prog) W 22 3 (some ad) l0.length c0 0 0 Try.underlying22
      have HR1 := Aside0.mk hr0
      clear hr0 hc0
      obtain ⟨y323, hy323⟩ : ∃ y_ : List Int, y_ = (([] : List Int)) := ⟨_, rfl⟩
      have LMc5 : Aside0 (y323.length + l0.length < 17592186044416) := ⟨by rw [hy323]; simpa using LM.out⟩
      have Ny323 := Aside0.mk hy323
      clear hy323
      obtain ⟨y326, hy326⟩ : ∃ y_ : List Int, y_ = (y323 ++ l0) := ⟨_, rfl⟩
      have hfin : Aside0 (y326 = l0) := ⟨by rw [hy326, Ny323.out]; rfl⟩
      have Ny326 := Aside0.mk hy326
      clear hy326
      go_enter Try.func34, Try.ntmps34
      go_wp2_with (first | ((with_reducible refine gate_dst (N := 5) rfl ?_); refine Kd.R_lit (Kd.int .i64) _ 3 ?hg (N := 5) ?hd (xs := ([] : List Int)) (inner := []) (ok := fun _ => True) (okp := fun _ => True) ?hr ?hp (fun _ hk => hk) trivial (Below.refl _ _) (Nat.le_refl _) (by simp) ?_; (case hd => rfl); (case hg => rfl); (case hr => first | (go_simp; done) | (go_simp; rfl)); (case hp => exact (Reps.none _ _)); intro v324 w6 ho7 hb hg_ hnew_; clear hg_ hnew_; (first | rw [← Ny323.out] at ho7 | (simp only [Int.reduceToNat] at ho7; rw [← Ny323.out] at ho7)); have n0_ := Aside0.mk (Kd.R_lower ho7 (below_size (by repeat (first | (with_reducible first | exact HB.out | apply below_alloc | apply pw_below_drewN | apply below_drew1) | exact HB.out)))); have n1_ := Aside0.mk (below_step (by repeat (first | (with_reducible first | exact HB.out | apply below_alloc | apply pw_below_drewN | apply below_drew1) | exact HB.out)) hb); clear HB; have HO325 := n0_; have HB := n1_; clear n0_ n1_; clear hb ho7) | ((with_reducible refine gate_builtin (b := .append) (xs := #[.tmp 5, .tmp 6]) rfl ?_); at_builtin; refine Kd.R_append_rows (Kd.int .i64) (w0 := w) w.heap.size rfl (.tmp 5) (.tmp 6) 22 3 (.int .i64 0) 8 rfl Try.underlying22 info3 rfl (by decide) (by omega) v324 y323 l0 _ _ _ (fun _ => True) (fun _ => False) rfl rfl ?aO ?aR (fun _ _ h => h) (fun _ h => h.elim) ?aF ?aB ?aS ?aL ?_; (case aR => repeat (first | exact (Kd.C_below HR1.out HB.out) | (with_reducible refine Kd.C_alloc ?_ _) | (with_reducible refine Kd.C_drewN ?_ _) | (with_reducible refine Kd.C_drew ?_))); (case aB => exact (by repeat (first | (with_reducible first | exact HB.out | apply below_alloc | apply pw_below_drewN | apply below_drew1) | exact HB.out))); (case aF => exact (fun _ _ => trivial)); (case aO => exact (by (with_reducible repeat (first | apply Kd.R_alloc | apply Kd.R_drewN | apply Kd.R_drew)); exact HO325.out)); (case aS => exact (below_size (by repeat (first | (with_reducible first | exact HB.out | apply below_alloc | apply pw_below_drewN | apply below_drew1) | exact HB.out)))); (case aL => have := LMc5.out; omega); intro v327 w8 ho hb hg hat; rw [← Ny326.out] at ho; have n0_ := Aside0.mk (hb); have n1_ := Aside0.mk (ho); clear HB; clear HO325; have HB := n0_; have HO328 := n1_; clear n0_ n1_; clear ho hb hg hat))
      go_ret
      exact ⟨_, rfl, by rw [← hfin.out]; exact HO328.out, HB.out⟩
  · cases h
def store_copies.l0 : Nat → List (S80) → List (S80) → Int → Int → Option ((List (S80)))
 | 0, _, _, _, _ => none
 | k + 1, x3, x6, x7, x8 => if x8 < x7 then (if 0 ≤ x8 then (if x8 < (x6.length : Int) then ((bank_Copy.f ((rd_T80 x6 x8).f0.f0) ((rd_T80 x6 x8).f0.f1) ((rd_T80 x6 x8).f0.f2) ((rd_T80 x6 x8).f1) ((rd_T80 x6 x8).f2)).bind fun bt141 => (if x3.length < 1954687338268 then (store_copies.l0 k (x3 ++ [(⟨(⟨bt141.1, bt141.2.1, bt141.2.2.1⟩ : S78), bt141.2.2.2.1, bt141.2.2.2.2⟩ : S80)]) x6 x7 (wrap64 (x8 + 1))) else (none))) else (none)) else (none)) else (some x3)
def store_copies.f (k : Nat) (l0 : List (S80)) : Option ((List (S80))) := store_copies.l0 k ([] : List (S80)) l0 (l0.length : Int) 0
set_option maxHeartbeats 8000000 in
set_option maxRecDepth 100000 in
theorem store_copies.calls (k : Nat) (A0 : Option Addr) (c0 : Nat) (l0 : List (S80)) (r : List (S80)) (w : World) (hr0 : Kd.C k80 w A0 l0.length l0) (hc0 : l0.length ≤ c0) (h : store_copies.f k l0 = some r) :
  Calls Try.prog 44 #[.slice A0 l0.length c0] w fun e w' => ∃ v0_ : Value, e = .returned (v0_) ∧ Kd.S k80 80 w' w.heap.size (fun _ => True) v0_ r ∧ Below w.heap.size w w' := by
 have hu80 := Try.underlying80
 have HR0 := aM hr0
 have HC0 := aM hc0
 clear hr0 hc0
 have HB := aM (Below.refl w.heap.size w)
 have H : (store_copies.l0 k ([] : List (S80)) l0 (l0.length : Int) 0) = some r := h
 clear h
 have H' := aM H
 clear H
 go_enter Try.func44, Try.ntmps44
 go_wp2
 go_loopg [3, 8] k (fun kq v3 v8 w' => ∃ (x3_1 : List (S80)) (x8_1 : Int), v8 = .int .i64 x8_1 ∧ Aside0 (store_copies.l0 kq x3_1 l0 (l0.length : Int) x8_1 = some r) ∧ Aside0 (kq ≤ k) ∧ Aside0 (Kd.S k80 80 w' w.heap.size (fun _ => True) v3 x3_1) ∧ Aside0 (Below w.heap.size w w'))
 case atStart => exact ⟨(([] : List (S80))), (0), (pF), H', ⟨Nat.le_refl _⟩, ⟨pN⟩, ⟨qB HB⟩⟩
 case round =>
  clear H'
  obtain ⟨x3_1, x8_1, rfl, HA, HK1, zd, HB⟩ := hrel
  cases gk with
  | zero => exact absurd HA.out (by simp [store_copies.l0])
  | succ k1 =>
   have H := HA.out
   clear HA
   simp only [store_copies.l0] at H
   by_cases c2 : x8_1 < (l0.length : Int)
   rotate_left
   ·rw [if_neg c2] at H
    have c2b0 : decide (x8_1 < (l0.length : Int)) = false := decide_eq_false c2
    clear c2
    obtain rfl := Option.some.inj H
    go_wp2
    go_ret
    exact ⟨_, pE, by (with_reducible repeat (first | apply Kd.S_alloc | apply Kd.S_drewN | apply Kd.S_drew)); exact zd.out, qB HB⟩
   rw [if_pos c2] at H
   have c2b0 : decide (x8_1 < (l0.length : Int)) = true := decide_eq_true c2
   clear c2
   by_cases c3 : 0 ≤ x8_1
   rotate_left
   ·rw [if_neg c3] at H
    exact absurd H (by simp)
   rw [if_pos c3] at H
   have c3b0 : decide (0 ≤ x8_1) = true := decide_eq_true c3
   clear c3
   by_cases c4 : x8_1 < (l0.length : Int)
   rotate_left
   ·rw [if_neg c4] at H
    exact absurd H (by simp)
   rw [if_pos c4] at H
   have c4b0 : decide (x8_1 < (l0.length : Int)) = true := decide_eq_true c4
   clear c4
   replace H := Option.bind_eq_some_iff.mp H
   obtain ⟨⟨zi, zg, zh, zj, zk⟩, A50, H⟩ := H
   try dsimp only at H
   have A5 := aM A50
   clear A50
   by_cases c6 : x3_1.length < 1954687338268
   rotate_left
   ·rw [if_neg c6] at H
    exact absurd H (by simp)
   rw [if_pos c6] at H
   have LMc6 := aM c6
   clear c6
   obtain ⟨zm, zl⟩ : ∃ y_ : List (S80), y_ = (x3_1 ++ [(⟨(⟨zi, zg, zh⟩ : S78), zj, zk⟩ : S80)]) := ⟨_, rfl⟩
   replace H : (store_copies.l0 k1 zm l0 (l0.length : Int) (wrap64 (x8_1 + 1))) = some r := pH zl H
   have Ny150 := aM zl
   clear zl
   have H' := aM H
   clear H
   have p139 : 0 ≤ (x8_1 : Int) := of_decide_eq_true pD
   have q139 : x8_1 < (l0.length : Int) := of_decide_eq_true pD
   obtain ⟨ad139, A139_1, c139_1, A139_2, c139_2, e139, hx139_0, hx139_1, hx139_2, hx139_3, hx139_4, hl139_1, hi139_1, hl139_2, hi139_2⟩ := at_T80 HR0.out x8_1 p139 q139
   cases e139
   replace hx139_0 := (HB.out.cell (World.block_lt_of_cell? w _ hx139_0)).trans hx139_0
   replace hx139_1 := (HB.out.cell (World.block_lt_of_cell? w _ hx139_1)).trans hx139_1
   replace hx139_2 := (HB.out.cell (World.block_lt_of_cell? w _ hx139_2)).trans hx139_2
   replace hx139_3 := (HB.out.cell (World.block_lt_of_cell? w _ hx139_3)).trans hx139_3
   replace hx139_4 := (HB.out.cell (World.block_lt_of_cell? w _ hx139_4)).trans hx139_4
   have HR139_1 := aM hi139_1
   have HC139_1 := aM hl139_1
   clear hi139_1 hl139_1
   have HR139_2 := aM hi139_2
   have HC139_2 := aM hl139_2
   clear hi139_2 hl139_2
   replace p139 := eq_true p139
   replace q139 := eq_true q139
   go_wp2_with (first | ((with_reducible refine gate_dst (N := 5) rfl ?_); refine box_event ?hg (N := 5) ?hd (cs := #[.bool false, .slice none 0 0, .slice none 0 0, .int .u64 0, .int .i64 0]) (t := 80) ?hr ?_; (case hd => rfl); (case hg => rfl); (case hr => first | (go_simp; done) | (go_simp; rfl)); intro za hg w7 hbox hb; replace zd := aM (Kd.S_below (Kd.S_elderB (by (with_reducible repeat (first | apply Kd.S_alloc | apply Kd.S_drewN | apply Kd.S_drew)); exact zd.out) za (Nat.le_of_eq hg.symm)) hb); have zb := aM (hbox); have GW140 := gE (w := w) hg (qB HB); have zc := GW140; replace HB := bS (qB HB) hb; clear hb hbox hg; obtain ⟨hcz8_0, hcz8_1, hcz8_2, hcz8_3, hcz8_4, hfz8_0, hfz8_1, hfz8_2, hfz8_3, hfz8_4⟩ := blk5 zb.out) | ((with_reducible refine gate_callee (f := 48) rfl ?_); refine goesL_ (some 14) rfl rfl Try.func48 (by kernel_rfl) rfl #[.agg #[.bool ((rd_T80 l0 x8_1).f0.f0), .slice A139_1 ((rd_T80 l0 x8_1).f0.f1).length c139_1, .slice A139_2 ((rd_T80 l0 x8_1).f0.f2).length c139_2, .int .u64 ((rd_T80 l0 x8_1).f1), .int .i64 ((rd_T80 l0 x8_1).f2)]] rfl pA ?_; (with_reducible refine (bank_Copy.calls ((rd_T80 l0 x8_1).f0.f0) _ _ ((rd_T80 l0 x8_1).f0.f1) _ _ ((rd_T80 l0 x8_1).f0.f2) ((rd_T80 l0 x8_1).f1) ((rd_T80 l0 x8_1).f2) zi zg zh zj zk _ ?s1 ?s2 ?s3 ?s4 A5.out).mono ?_); (case s1 => exact Kd.C_below HR139_1.out (qB1 HB zc)); (case s2 => exact HC139_1.out); (case s3 => exact Kd.C_below HR139_2.out (qB1 HB zc)); (case s4 => exact HC139_2.out); rintro e w9 ⟨v143, v146, rfl, ho0, ho1, hb⟩; refine ⟨_, rfl, ?_⟩; replace zd := aM (Kd.S_mono (Kd.S_told (Kd.S_told (Kd.S_old (by (with_reducible repeat (first | apply Kd.S_alloc | apply Kd.S_drewN | apply Kd.S_drew)); exact (Kd.S_mono (Kd.S_far (p := ⟨za, 4, none⟩) (Kd.S_far (p := ⟨za, 3, none⟩) (Kd.S_far (p := ⟨za, 2, none⟩) (Kd.S_far (p := ⟨za, 1, none⟩) (Kd.S_far (p := ⟨za, 0, none⟩) (Kd.S_mono zd.out (fun k_ hk => (⟨hk, hk.2⟩ : _ ∧ k_ ≠ za))) (fun _ hk => hk.2) (.bool ((rd_T80 l0 x8_1).f0.f0))) (fun _ hk => hk.2) (.slice A139_1 ((rd_T80 l0 x8_1).f0.f1).length c139_1)) (fun _ hk => hk.2) (.slice A139_2 ((rd_T80 l0 x8_1).f0.f2).length c139_2)) (fun _ hk => hk.2) (.int .u64 ((rd_T80 l0 x8_1).f1))) (fun _ hk => hk.2) (.int .i64 ((rd_T80 l0 x8_1).f2))) (fun _ h_ => h_.1))) hb) (Kd.R_base ho0)) (Kd.R_base ho1)) (fun _ h_ => h_.1)); have ze := aM (Kd.R_lower ho0 (below_size (qB1 HB zc))); have zf := aM (Kd.R_lower ho1 (below_size (qB1 HB zc))); replace zb := aM (blk_below (g := za) (o := .cells #[.bool ((rd_T80 l0 x8_1).f0.f0), .slice A139_1 ((rd_T80 l0 x8_1).f0.f1).length c139_1, .slice A139_2 ((rd_T80 l0 x8_1).f0.f2).length c139_2, .int .u64 ((rd_T80 l0 x8_1).f1), .int .i64 ((rd_T80 l0 x8_1).f2)] 80 (0, 0)) (by (with_reducible repeat (first | apply bN | apply bD | apply bA)); refine blk_put (cs := #[.bool ((rd_T80 l0 x8_1).f0.f0), .slice A139_1 ((rd_T80 l0 x8_1).f0.f1).length c139_1, .slice A139_2 ((rd_T80 l0 x8_1).f0.f2).length c139_2, .int .u64 ((rd_T80 l0 x8_1).f1), .int .i64 0]) ?_ 4 _ rfl; (with_reducible repeat (first | apply bN | apply bD | apply bA)); refine blk_put (cs := #[.bool ((rd_T80 l0 x8_1).f0.f0), .slice A139_1 ((rd_T80 l0 x8_1).f0.f1).length c139_1, .slice A139_2 ((rd_T80 l0 x8_1).f0.f2).length c139_2, .int .u64 0, .int .i64 0]) ?_ 3 _ rfl; (with_reducible repeat (first | apply bN | apply bD | apply bA)); refine blk_put (cs := #[.bool ((rd_T80 l0 x8_1).f0.f0), .slice A139_1 ((rd_T80 l0 x8_1).f0.f1).length c139_1, .slice none 0 0, .int .u64 0, .int .i64 0]) ?_ 2 _ rfl; (with_reducible repeat (first | apply bN | apply bD | apply bA)); refine blk_put (cs := #[.bool ((rd_T80 l0 x8_1).f0.f0), .slice none 0 0, .slice none 0 0, .int .u64 0, .int .i64 0]) ?_ 1 _ rfl; (with_reducible repeat (first | apply bN | apply bD | apply bA)); refine blk_put (cs := #[.bool false, .slice none 0 0, .slice none 0 0, .int .u64 0, .int .i64 0]) ?_ 0 _ rfl; (with_reducible repeat (first | apply bN | apply bD | apply bA)); exact zb.out) hb); replace HB := bS (qB1 HB zc) hb; (try clear hb); (try clear hk); (try clear hi); (try clear ho0); (try clear ho1); obtain ⟨zn, zo, eo11⟩ := Kd.R_slice ze.out; subst eo11; obtain ⟨zp, zq, eo12⟩ := Kd.R_slice zf.out; subst eo12) | ((with_reducible refine gate_builtin (b := .append) (xs := #[.tmp 12, .tmp 15]) rfl ?_); at_builtin; refine Kd.S_append k80 (w0 := w) w.heap.size rfl (.tmp 12) (.tmp 15) 23 80 (.agg #[(.bool false), (.slice none 0 0), (.slice none 0 0), (.int .u64 0), (.int .i64 0)]) 72 rfl Try.underlying23 info80 rfl (by decide) (by omega) u3 x3_1 (⟨(⟨zi, zg, zh⟩ : S78), zj, zk⟩ : S80) [.bool zi, .slice zn zg.length zo, .slice zp zh.length zq, .int .u64 zj, .int .i64 zk] (fun k_ => k_ ≠ za) (fun k_ => some k_ = (.slice zn zg.length zo : Value).ownBlock ∨ some k_ = (.slice zp zh.length zq : Value).ownBlock) rfl rfl ?aP (fun k_ hk_ => hk_.elim (fun h_ => ((Kd.R_mono (ok' := fun k_ => ((fun k_ => k_ ≠ za)) k_ ∧ some k_ ≠ (u3 : Value).ownBlock) (Kd.R_types (Kd.R_apart' (ze.out) (Kd.S_typed zd.out) (by decide)) zb.out (by decide)) (fun k_ hk => ⟨hk.2, hk.1.2⟩))).1 k_ h_.symm) (fun h_ => ((Kd.R_mono (ok' := fun k_ => ((fun k_ => k_ ≠ za)) k_ ∧ some k_ ≠ (u3 : Value).ownBlock) (Kd.R_types (Kd.R_apart' (zf.out) (Kd.S_typed zd.out) (by decide)) zb.out (by decide)) (fun k_ hk => ⟨hk.2, hk.1.2⟩))).1 k_ h_.symm)) ?aF ?aO ?aB ?aS ?aL ?_; (case aP => exact k80_mkM _ _ _ (⟨(⟨zi, zg, zh⟩ : S78), zj, zk⟩ : S80) (Kd.R_mono (Kd.R_tight rfl (Kd.R_mono (ok' := fun k_ => ((fun k_ => k_ ≠ za)) k_ ∧ some k_ ≠ (u3 : Value).ownBlock) (Kd.R_types (Kd.R_apart' (ze.out) (Kd.S_typed zd.out) (by decide)) zb.out (by decide)) (fun k_ hk => ⟨hk.2, hk.1.2⟩))) (fun _ h_ => Or.inl h_)) (Kd.R_mono (Kd.R_tight rfl (Kd.R_mono (ok' := fun k_ => ((fun k_ => k_ ≠ za)) k_ ∧ some k_ ≠ (u3 : Value).ownBlock) (Kd.R_types (Kd.R_apart' (zf.out) (Kd.S_typed zd.out) (by decide)) zb.out (by decide)) (fun k_ hk => ⟨hk.2, hk.1.2⟩))) (fun _ h_ => Or.inr (h_)))); (case aB => exact (qB1 HB zc)); (case aF => exact (fun k_ hk => Kd.freshB (g := za) (pK zb.out) k_ hk)); (case aO => exact (by (with_reducible repeat (first | apply Kd.S_alloc | apply Kd.S_drewN | apply Kd.S_drew)); exact Kd.S_mono zd.out (fun k_ hk => ⟨hk.1.1.2, fun e_ => e_.elim (fun h_ => hk.1.2 h_) (fun h_ => hk.2 h_)⟩))); (case aS => exact (below_size (qB1 HB zc))); (case aL => have := LMc6.out; omega); intro v151 w10 ho hb hg hat; rw [← Ny150.out] at ho; replace zb := aM (blk_grown (g := za) (pK zb.out) hg (Kd.S_away zd.out (fun _ hk => hk.1.1.2))); replace HB := aM (hb); have HO152 := aM (ho); clear zd ze zf; clear ho hb hg hat))
   go_roundg k1
   case measure => have := HK1.out; omega
   case rel => exact ⟨(zm), (wrap64 (x8_1 + 1)), (pF), H', ⟨by have := HK1.out; omega⟩, ⟨by (with_reducible repeat (first | apply Kd.S_alloc | apply Kd.S_drewN | apply Kd.S_drew)); exact Kd.S_mono HO152.out (fun _ hk => trivial)⟩, ⟨qB1 HB zc⟩⟩
def view_Whole.f (k : Nat) (l0 : List Int) : Option (Int × List Int × List Int) := (shape_Check.f l0).bind fun zc => (if zc = 0 then ((slices_Clone_int_int.f l0).bind fun zf => ((shape_Steps.f k l0).bind fun zg => (some (0, zf, zg)))) else (some (0, ([] : List Int), ([] : List Int))))
set_option maxHeartbeats 8000000 in
set_option maxRecDepth 100000 in
theorem view_Whole.calls (k : Nat) (A0 : Option Addr) (c0 : Nat) (l0 : List Int) (r1 : Int) (r2 : List Int) (r3 : List Int) (w : World) (hr0 : Kd.C (Kd.int .i64) w A0 l0.length l0) (hc0 : l0.length ≤ c0) (h : view_Whole.f k l0 = some (r1, r2, r3)) :
  Calls Try.prog 30 #[.slice A0 l0.length c0] w fun e w' => ∃ v1_ v2_ : Value, e = .returned (.agg #[.int .i64 r1, v1_, v2_]) ∧ Kd.R (Kd.int .i64) 3 w' w.heap.size (fun k_ => some k_ ≠ (v2_ : Value).ownBlock) v1_ r2 ∧ Kd.R (Kd.int .i64) 3 w' w.heap.size (fun k_ => some k_ ≠ (v1_ : Value).ownBlock) v2_ r3 ∧ Below w.heap.size w w' := by
 have hu43 := Try.underlying43
 have HR0 := aM hr0
 have HC0 := aM hc0
 clear hr0 hc0
 have HB := aM (Below.refl w.heap.size w)
 have H : ((shape_Check.f l0).bind fun zc => (if zc = 0 then ((slices_Clone_int_int.f l0).bind fun zf => ((shape_Steps.f k l0).bind fun zg => (some (0, zf, zg)))) else (some (0, ([] : List Int), ([] : List Int))))) = some (r1, r2, r3) := h
 clear h
 replace H := Option.bind_eq_some_iff.mp H
 obtain ⟨zc, A20, H⟩ := H
 try dsimp only at H
 have A2 := aM A20
 clear A20
 by_cases c3 : zc = 0
 rotate_left
 ·rw [if_neg c3] at H
  have c3b0 : (zc == 0) = false := beq_eq_false_iff_ne.mpr c3
  have c3b1 : (zc != 0) = true := bne_iff_ne.mpr c3
  simp only [Option.some.injEq, Prod.mk.injEq] at H
  obtain ⟨rfl, rfl, rfl⟩ := H
  go_enter Try.func30, Try.ntmps30
  go_wp2_with (first | ((with_reducible refine gate_dst (N := 2) rfl ?_); refine box_event ?hg (N := 2) ?hd (cs := #[.int .i64 0, .slice none 0 0, .slice none 0 0]) (t := 43) ?hr ?_; (case hd => rfl); (case hg => rfl); (case hr => first | (go_simp; done) | (go_simp; rfl)); intro zd hg w12 hbox hb; have za := aM (hbox); have zh := gE (w := w) hg (qB HB); have zb := zh; replace HB := bS (qB HB) hb; clear hb hbox hg) | ((with_reducible refine gate_callee (f := 27) rfl ?_); refine goesL_ (some 4) rfl rfl Try.func27 (by kernel_rfl) rfl #[.slice A0 l0.length c0] rfl pA ?_; (with_reducible refine (shape_Check.calls _ _ l0 zc _ ?s1 ?s2 A2.out).mono ?_); (case s1 => exact sC HR0 HB); (case s2 => exact HC0.out); rintro e w' ⟨rfl, ⟨nd, rfl⟩⟩; refine ⟨_, rfl, ?_⟩; (try (rw [drewN_self w12]; generalize hq_ : World.drewN w12 _ = w12; have n0_ : Aside0 (w12.heap[zd]? = some (.cells #[.int .i64 0, .slice none 0 0, .slice none 0 0] 43 (0, 0))) := ⟨by rw [← hq_]; exact (pK za.out)⟩; have n1_ : Aside0 (Below w.heap.size w w12) := ⟨by rw [← hq_]; exact (qB1 HB zb)⟩; clear za HB hq_; have za := n0_; have HB := n1_; clear n0_ n1_)); obtain ⟨hcz13_0, hcz13_1, hcz13_2, hfz13_0, hfz13_1, hfz13_2⟩ := blk3 za.out))
  refine bodyPost_ret (results_cell_row rfl _ _ zd 43 #[.int .i64 0, .slice none 0 0, .slice none 0 0] (0, 0) _ rfl (by exact P3 za) Try.underlying43 rfl (by kernel_rfl)) rfl ?_
  exact ⟨_, _, pE, pN, pN, qB1 HB zb⟩
 rw [if_pos c3] at H
 have c3b0 : (zc == 0) = true := beq_iff_eq.mpr c3
 have c3b1 : (zc != 0) = false := bne_eq_false_iff_eq.mpr c3
 clear c3
 replace H := Option.bind_eq_some_iff.mp H
 obtain ⟨zf, A40, H⟩ := H
 try dsimp only at H
 have A4 := aM A40
 clear A40
 replace H := Option.bind_eq_some_iff.mp H
 obtain ⟨zg, A50, H⟩ := H
 try dsimp only at H
 have A5 := aM A50
 clear A50
 simp only [Option.some.injEq, Prod.mk.injEq] at H
 obtain ⟨rfl, rfl, rfl⟩ := H
 go_enter Try.func30, Try.ntmps30
 go_wp2_with (first | ((with_reducible refine gate_dst (N := 2) rfl ?_); refine box_event ?hg (N := 2) ?hd (cs := #[.int .i64 0, .slice none 0 0, .slice none 0 0]) (t := 43) ?hr ?_; (case hd => rfl); (case hg => rfl); (case hr => first | (go_simp; done) | (go_simp; rfl)); intro zd hg w6 hbox hb; have za := aM (hbox); have zh := gE (w := w) hg (qB HB); have zb := zh; replace HB := bS (qB HB) hb; clear hb hbox hg) | ((with_reducible refine gate_callee (f := 27) rfl ?_); refine goesL_ (some 4) rfl rfl Try.func27 (by kernel_rfl) rfl #[.slice A0 l0.length c0] rfl pA ?_; (with_reducible refine (shape_Check.calls _ _ l0 zc _ ?s1 ?s2 A2.out).mono ?_); (case s1 => exact sC HR0 HB); (case s2 => exact HC0.out); rintro e w' ⟨rfl, ⟨nd, rfl⟩⟩; refine ⟨_, rfl, ?_⟩; (try (rw [drewN_self w6]; generalize hq_ : World.drewN w6 _ = w6; have n0_ : Aside0 (w6.heap[zd]? = some (.cells #[.int .i64 0, .slice none 0 0, .slice none 0 0] 43 (0, 0))) := ⟨by rw [← hq_]; exact (pK za.out)⟩; have n1_ : Aside0 (Below w.heap.size w w6) := ⟨by rw [← hq_]; exact (qB1 HB zb)⟩; clear za HB hq_; have za := n0_; have HB := n1_; clear n0_ n1_))) | ((with_reducible refine gate_callee (f := 34) rfl ?_); refine goesL_ (some 8) rfl rfl Try.func34 (by kernel_rfl) rfl #[.slice A0 l0.length c0] rfl pA ?_; (with_reducible refine (slices_Clone_int_int.calls _ _ l0 zf _ ?s1 ?s2 A4.out).mono ?_); (case s1 => exact sC HR0 HB); (case s2 => exact HC0.out); rintro e w7 ⟨v162, rfl, ho0, hb⟩; refine ⟨_, rfl, ?_⟩; have ze := aM (Kd.R_lower ho0 (below_size (qB1 HB zb))); replace za := bK za hb; replace HB := bS (qB1 HB zb) hb; (try clear hb); (try clear hk); (try clear hi); (try clear ho0)) | ((with_reducible refine gate_callee (f := 45) rfl ?_); refine goesL_ (some 10) rfl rfl Try.func45 (by kernel_rfl) rfl #[.slice A0 l0.length c0] rfl pA ?_; (with_reducible refine (shape_Steps.calls k _ _ l0 zg _ ?s1 ?s2 A5.out).mono ?_); (case s1 => exact sC HR0 HB); (case s2 => exact HC0.out); rintro e w8 ⟨v165, rfl, ho0, hb⟩; refine ⟨_, rfl, ?_⟩; have zi := aM (Kd.R_lower (Kd.R_new' ho0 (Kd.R_lt (pR ze.out))) (below_size (qB1 HB zb))); replace ze := eR ze ho0 hb; replace za := bK za hb; replace HB := bS (qB1 HB zb) hb; (try clear hb); (try clear hk); (try clear hi); (try clear ho0); obtain ⟨Ao9, co9, eo9⟩ := Kd.R_slice zi.out; subst eo9; obtain ⟨Ao10, co10, eo10⟩ := Kd.R_slice ze.out; subst eo10; obtain ⟨hcz11_0, hcz11_1, hcz11_2, hfz11_0, hfz11_1, hfz11_2⟩ := blk3 za.out))
 refine bodyPost_ret (results_cell_row rfl _ _ zd 43 #[.int .i64 0, .slice Ao10 zf.length co10, .slice Ao9 zg.length co9] (0, 0) _ rfl (by exact P3 za) Try.underlying43 rfl (by kernel_rfl)) rfl ?_
 exact ⟨_, _, pE, by (with_reducible repeat (first | apply rA | apply rN | apply rD)); exact F3 ze za (fun _ hk => hk.1.2), by (with_reducible repeat (first | apply rA | apply rN | apply rD)); exact F3 zi za (fun _ hk => hk.1.2), qB1 HB zb⟩
end Go.Proofs.Ytmhikecbajkonaa.Q
namespace Go.Proofs.Ytmhikecbajkonaa.Q
open Go.RowKit Go.Proofs.YtmhikecbajkonaaW.PrintWords Go.Proofs.YtmhikecbajkonaaW.PrintLast Go.Proofs.YtmhikecbajkonaaW.PrintMore
attribute [local go_sem] max2_int min2_int max_two min_two max_three min_three max_four min_four
set_option linter.unusedVariables false
set_option linter.unusedSimpArgs false
theorem store_Version.calls (gs : Nat) (v : Value) (ver : Int) (w : World) (hst : w.heap[gs]? = some (.cells #[v, .int .i64 ver] 89 (0, 0))) :
  Calls Try.prog 41 #[.pointer (some ⟨gs, 0, none⟩)] w fun e w' => e = .returned (.int .i64 ver) ∧ Below w.heap.size w w' := by
 have hu89 := Try.underlying89
 have HS := aM hst
 clear hst
 have HB := aM (Below.refl w.heap.size w)
 have hczs := blk2 HS.out
 go_enter Try.func41, Try.ntmps41
 go_wp2
 go_ret
 exact ⟨pE, qB HB⟩
theorem store_New.nil (A : Option Addr) (c : Nat) (w : World) : Calls Try.prog 29 #[.slice A 0 c] w fun e w' => e = .returned (.pointer none) ∧ Below w.heap.size w w' := by
 have HB := aM (Below.refl w.heap.size w)
 go_enter Try.func29, Try.ntmps29
 go_wp2
 go_ret
 exact ⟨pE, qB HB⟩
set_option maxHeartbeats 8000000 in
set_option maxRecDepth 100000 in
theorem store_New.calls (k : Nat) (A : Option Addr) (c : Nat) (l V : List S80) (w : World) (hr : Kd.C k80 w A l.length l) (hc : l.length ≤ c) (h1 : 1 ≤ l.length) (h64 : l.length ≤ 64) (h : store_copies.f k l = some V) :
  Calls Try.prog 29 #[.slice A l.length c] w fun e w' => ∃ (gs : Nat) (v : Value), e = .returned (.pointer (some ⟨gs, 0, none⟩)) ∧ w'.heap[gs]? = some (.cells #[v, .int .i64 0] 89 (0, 0)) ∧ w.heap.size ≤ gs ∧ Kd.S k80 80 w' w.heap.size (fun k_ => k_ ≠ gs) v V ∧ Below w.heap.size w w' := by
 have hu89 := Try.underlying89
 have HR := aM hr
 have HC := aM hc
 have AC := aM h
 clear hr hc h
 have HB := aM (Below.refl w.heap.size w)
 have d1 : decide ((l.length : Int) < 1) = false := decide_eq_false (by omega)
 have d2 : decide ((l.length : Int) > 64) = false := decide_eq_false (by omega)
 have d3 : decide (64 < (l.length : Int)) = false := decide_eq_false (by omega)
 have d4 : decide (l.length < 1) = false := decide_eq_false (by omega)
 have d5 : decide (64 < l.length) = false := decide_eq_false (by omega)
 have hl0 : ¬ (l.length = 0) := by omega
 have hln : ¬ (l = []) := fun e => by rw [e] at h1; simp at h1
 have hb0 : (l.length == 0) = false := beq_eq_false_iff_ne.mpr hl0
 go_enter Try.func29, Try.ntmps29
 go_wp2_with (first | ((with_reducible refine gate_callee (f := 44) rfl ?_); refine goesL_ (some 12) rfl rfl Try.func44 (by kernel_rfl) rfl #[.slice A l.length c] rfl pA ?_; (with_reducible refine (store_copies.calls k _ _ l V _ ?s1 ?s2 AC.out).mono ?_); (case s1 => exact Kd.C_below HR.out (qB HB)); (case s2 => exact HC.out); rintro e w9 ⟨v0, rfl, ho0, hb⟩; refine ⟨_, rfl, ?_⟩; have HV := aM (Kd.S_lower ho0 (below_size (qB HB))); replace HB := bS (qB HB) hb; clear hb ho0; obtain ⟨Ao, co, eo⟩ := Kd.S_slice HV.out; subst eo) | ((with_reducible refine gate_dst (N := 14) rfl ?_); refine box_event ?hg (N := 14) ?hd (cs := #[.slice Ao V.length co, .int .i64 0]) (t := 89) ?hr ?_; (case hd => rfl); (case hg => rfl); (case hr => first | (go_simp; done) | (go_simp; rfl)); intro gs hg w10 hbox hb; have BS := aM hbox; have GE := gE (w := w) hg (qB HB); replace HV := aM (Kd.S_below (Kd.S_elderB HV.out gs (Nat.le_of_eq hg.symm)) hb); replace HB := bS (qB HB) hb; clear hb hbox hg))
 go_ret
 exact ⟨gs, _, pE, BS.out, GE.out, Kd.S_mono HV.out (fun _ hk => hk.2), qB HB⟩
def store_Get.l0 : Nat → List S80 → List Int → List S80 → Int → Option (List S80 × Int)
 | 0, _, _, _, _ => none
 | k + 1, V, l1, out, x => if x < (l1.length : Int) then (if 0 ≤ x then (if rd l1 x < 0 then some ([], 11) else if (V.length : Int) ≤ rd l1 x then some ([], 11) else (bank_Copy.f (rd_T80 V (rd l1 x)).f0.f0 (rd_T80 V (rd l1 x)).f0.f1 (rd_T80 V (rd l1 x)).f0.f2 (rd_T80 V (rd l1 x)).f1 (rd_T80 V (rd l1 x)).f2).bind fun b => if out.length < 1954687338268 then store_Get.l0 k V l1 (out ++ [(⟨(⟨b.1, b.2.1, b.2.2.1⟩ : S78), b.2.2.2.1, b.2.2.2.2⟩ : S80)]) (wrap64 (x + 1)) else none) else none) else some (out, 0)
def store_Get.f (k : Nat) (V : List S80) (l1 : List Int) : Option (List S80 × Int) := store_Get.l0 k V l1 [] 0
set_option maxHeartbeats 8000000 in
set_option maxRecDepth 100000 in
theorem store_Get.calls (k : Nat) (gs : Nat) (A : Option Addr) (c : Nat) (V : List S80) (ver : Int) (A1 : Option Addr) (c1 : Nat) (l1 : List Int) (r1 : List S80) (r2 : Int) (w : World) (hst : w.heap[gs]? = some (.cells #[.slice A V.length c, .int .i64 ver] 89 (0, 0))) (hrV : Kd.C k80 w A V.length V) (hr1 : Kd.C (Kd.int .i64) w A1 l1.length l1) (h : store_Get.f k V l1 = some (r1, r2)) :
  Calls Try.prog 40 #[.pointer (some ⟨gs, 0, none⟩), .slice A1 l1.length c1] w fun e w' => ∃ v0_ : Value, e = .returned (.tuple #[v0_, .int .i64 r2]) ∧ Kd.S k80 80 w' w.heap.size (fun _ => True) v0_ r1 ∧ Below w.heap.size w w' := by
 have hu80 := Try.underlying80
 have hu89 := Try.underlying89
 have HS := aM hst
 have HV := aM hrV
 have HR1 := aM hr1
 clear hst hrV hr1
 have HB := aM (Below.refl w.heap.size w)
 have H' := aM (show store_Get.l0 k V l1 [] 0 = some (r1, r2) from h)
 clear h
 go_enter Try.func40, Try.ntmps40
 go_wp2
 go_loopg [6, 13] k (fun kq v6 v13 w' => ∃ (x6_1 : List S80) (x13_1 : Int), v13 = .int .i64 x13_1 ∧ Aside0 (store_Get.l0 kq V l1 x6_1 x13_1 = some (r1, r2)) ∧ Aside0 (kq ≤ k) ∧ Aside0 (Kd.S k80 80 w' w.heap.size (fun _ => True) v6 x6_1) ∧ Aside0 (Below w.heap.size w w'))
 case atStart => exact ⟨([] : List S80), (0), (pF), H', ⟨Nat.le_refl _⟩, ⟨pN⟩, ⟨qB HB⟩⟩
 case round =>
  clear H'
  obtain ⟨x6_1, x13_1, rfl, HA, HK1, zd, HB⟩ := hrel
  cases gk with
  | zero => exact absurd HA.out (by simp [store_Get.l0])
  | succ k1 =>
   have H := HA.out
   clear HA
   simp only [store_Get.l0] at H
   have hczs := blk2 (blk_below HS.out HB.out)
   by_cases c2 : x13_1 < (l1.length : Int)
   rotate_left
   ·rw [if_neg c2] at H
    have c2b0 : decide (x13_1 < (l1.length : Int)) = false := decide_eq_false c2
    clear c2
    simp only [Option.some.injEq, Prod.mk.injEq] at H
    obtain ⟨rfl, rfl⟩ := H
    go_wp2
    go_ret2
    exact ⟨_, pE, by (with_reducible repeat (first | apply Kd.S_alloc | apply Kd.S_drewN | apply Kd.S_drew)); exact zd.out, qB HB⟩
   rw [if_pos c2] at H
   have c2b0 : decide (x13_1 < (l1.length : Int)) = true := decide_eq_true c2
   by_cases c3 : 0 ≤ x13_1
   rotate_left
   ·rw [if_neg c3] at H
    exact absurd H (by simp)
   rw [if_pos c3] at H
   have c3b0 : decide (0 ≤ x13_1) = true := decide_eq_true c3
   obtain ⟨ad1, e1, hw1⟩ := Kd.at_int HR1.out x13_1 c3 c2
   cases e1
   have hx1 := (HB.out.cell (World.block_lt_of_cell? w _ hw1)).trans hw1
   by_cases c5 : rd l1 x13_1 < 0
   ·rw [if_pos c5] at H
    have c5b0 : decide (rd l1 x13_1 < 0) = true := decide_eq_true c5
    simp only [Option.some.injEq, Prod.mk.injEq] at H
    obtain ⟨rfl, rfl⟩ := H
    go_wp2
    go_ret2
    exact ⟨_, pE, pN, qB HB⟩
   rw [if_neg c5] at H
   have c5b0 : decide (rd l1 x13_1 < 0) = false := decide_eq_false c5
   by_cases c6 : (V.length : Int) ≤ rd l1 x13_1
   ·rw [if_pos c6] at H
    have c6b0 : decide (rd l1 x13_1 ≥ (V.length : Int)) = true := decide_eq_true c6
    have c6b1 : decide ((V.length : Int) ≤ rd l1 x13_1) = true := decide_eq_true c6
    simp only [Option.some.injEq, Prod.mk.injEq] at H
    obtain ⟨rfl, rfl⟩ := H
    go_wp2
    go_ret2
    exact ⟨_, pE, pN, qB HB⟩
   rw [if_neg c6] at H
   have c6b0 : decide (rd l1 x13_1 ≥ (V.length : Int)) = false := decide_eq_false c6
   have c6b1 : decide ((V.length : Int) ≤ rd l1 x13_1) = false := decide_eq_false c6
   replace H := Option.bind_eq_some_iff.mp H
   obtain ⟨⟨zi, zg, zh, zj, zk⟩, A50, H⟩ := H
   try dsimp only at H
   have A5 := aM A50
   clear A50
   by_cases c7 : x6_1.length < 1954687338268
   rotate_left
   ·rw [if_neg c7] at H
    exact absurd H (by simp)
   rw [if_pos c7] at H
   have LMc7 := aM c7
   clear c7
   obtain ⟨zm, zl⟩ : ∃ y_ : List S80, y_ = (x6_1 ++ [(⟨(⟨zi, zg, zh⟩ : S78), zj, zk⟩ : S80)]) := ⟨_, rfl⟩
   replace H : store_Get.l0 k1 V l1 zm (wrap64 (x13_1 + 1)) = some (r1, r2) := pH zl H
   have Ny := aM zl
   clear zl
   have H' := aM H
   clear H
   have p2 : 0 ≤ rd l1 x13_1 := by omega
   have q2 : rd l1 x13_1 < (V.length : Int) := by omega
   obtain ⟨ad2, B1, b1, B2, b2, e2, hy0, hy1, hy2, hy3, hy4, hl1, hi1, hl2, hi2⟩ := at_T80 HV.out (rd l1 x13_1) p2 q2
   cases e2
   replace hy0 := (HB.out.cell (World.block_lt_of_cell? w _ hy0)).trans hy0
   replace hy1 := (HB.out.cell (World.block_lt_of_cell? w _ hy1)).trans hy1
   replace hy2 := (HB.out.cell (World.block_lt_of_cell? w _ hy2)).trans hy2
   replace hy3 := (HB.out.cell (World.block_lt_of_cell? w _ hy3)).trans hy3
   replace hy4 := (HB.out.cell (World.block_lt_of_cell? w _ hy4)).trans hy4
   have HI1 := aM hi1
   have HL1 := aM hl1
   have HI2 := aM hi2
   have HL2 := aM hl2
   clear hi1 hl1 hi2 hl2
   go_wp2_with (first | ((with_reducible refine gate_callee (f := 48) rfl ?_); refine goesL_ (some 36) rfl rfl Try.func48 (by kernel_rfl) rfl #[.agg #[.bool ((rd_T80 V (rd l1 x13_1)).f0.f0), .slice B1 ((rd_T80 V (rd l1 x13_1)).f0.f1).length b1, .slice B2 ((rd_T80 V (rd l1 x13_1)).f0.f2).length b2, .int .u64 ((rd_T80 V (rd l1 x13_1)).f1), .int .i64 ((rd_T80 V (rd l1 x13_1)).f2)]] rfl pA ?_; (with_reducible refine (bank_Copy.calls ((rd_T80 V (rd l1 x13_1)).f0.f0) _ _ ((rd_T80 V (rd l1 x13_1)).f0.f1) _ _ ((rd_T80 V (rd l1 x13_1)).f0.f2) ((rd_T80 V (rd l1 x13_1)).f1) ((rd_T80 V (rd l1 x13_1)).f2) zi zg zh zj zk _ ?s1 ?s2 ?s3 ?s4 A5.out).mono ?_); (case s1 => exact Kd.C_below HI1.out (qB HB)); (case s2 => exact HL1.out); (case s3 => exact Kd.C_below HI2.out (qB HB)); (case s4 => exact HL2.out); rintro e w9 ⟨v135, v138, rfl, ho0, ho1, hb⟩; refine ⟨_, rfl, ?_⟩; replace zd := aM (Kd.S_mono (Kd.S_told (Kd.S_told (Kd.S_old (by (with_reducible repeat (first | apply Kd.S_alloc | apply Kd.S_drewN | apply Kd.S_drew)); exact zd.out) hb) (Kd.R_base ho0)) (Kd.R_base ho1)) (fun _ h_ => h_.1)); have ze := aM (Kd.R_lower ho0 (below_size (qB HB))); have zf := aM (Kd.R_lower ho1 (below_size (qB HB))); replace HB := bS (qB HB) hb; clear hb ho0 ho1; obtain ⟨zn, zo, eo11⟩ := Kd.R_slice ze.out; subst eo11; obtain ⟨zp, zq, eo12⟩ := Kd.R_slice zf.out; subst eo12) | ((with_reducible refine gate_builtin (b := .append) (xs := #[.tmp 28, .tmp 37]) rfl ?_); at_builtin; refine Kd.S_append k80 (w0 := w) w.heap.size rfl (.tmp 28) (.tmp 37) 23 80 (.agg #[(.bool false), (.slice none 0 0), (.slice none 0 0), (.int .u64 0), (.int .i64 0)]) 72 rfl Try.underlying23 info80 rfl (by decide) (by omega) u6 x6_1 (⟨(⟨zi, zg, zh⟩ : S78), zj, zk⟩ : S80) [.bool zi, .slice zn zg.length zo, .slice zp zh.length zq, .int .u64 zj, .int .i64 zk] (fun k_ => True) (fun k_ => some k_ = (.slice zn zg.length zo : Value).ownBlock ∨ some k_ = (.slice zp zh.length zq : Value).ownBlock) rfl rfl ?aP (fun k_ hk_ => hk_.elim (fun h_ => ((Kd.R_mono (ok' := fun k_ => True ∧ some k_ ≠ (u6 : Value).ownBlock) (Kd.R_apart' (ze.out) (Kd.S_typed zd.out) (by decide)) (fun k_ hk => ⟨trivial, hk.2⟩))).1 k_ h_.symm) (fun h_ => ((Kd.R_mono (ok' := fun k_ => True ∧ some k_ ≠ (u6 : Value).ownBlock) (Kd.R_apart' (zf.out) (Kd.S_typed zd.out) (by decide)) (fun k_ hk => ⟨trivial, hk.2⟩))).1 k_ h_.symm)) ?aF ?aO ?aB ?aS ?aL ?_; (case aP => exact k80_mkM _ _ _ (⟨(⟨zi, zg, zh⟩ : S78), zj, zk⟩ : S80) (Kd.R_mono (Kd.R_tight rfl (Kd.R_mono (ok' := fun k_ => True ∧ some k_ ≠ (u6 : Value).ownBlock) (Kd.R_apart' (ze.out) (Kd.S_typed zd.out) (by decide)) (fun k_ hk => ⟨trivial, hk.2⟩))) (fun _ h_ => Or.inl h_)) (Kd.R_mono (Kd.R_tight rfl (Kd.R_mono (ok' := fun k_ => True ∧ some k_ ≠ (u6 : Value).ownBlock) (Kd.R_apart' (zf.out) (Kd.S_typed zd.out) (by decide)) (fun k_ hk => ⟨trivial, hk.2⟩))) (fun _ h_ => Or.inr (h_)))); (case aB => exact (qB HB)); (case aF => exact (fun k_ hk => trivial)); (case aO => exact (by (with_reducible repeat (first | apply Kd.S_alloc | apply Kd.S_drewN | apply Kd.S_drew)); exact Kd.S_mono zd.out (fun k_ hk => ⟨trivial, fun e_ => e_.elim (fun h_ => hk.1.2 h_) (fun h_ => hk.2 h_)⟩))); (case aS => exact (below_size (qB HB))); (case aL => have := LMc7.out; omega); intro v143 w10 ho hb hg hat; rw [← Ny.out] at ho; replace HB := aM (hb); have HO144 := aM (ho); clear zd ze zf; clear ho hb hg hat))
   go_roundg k1
   case measure => have := HK1.out; omega
   case rel => exact ⟨(zm), (wrap64 (x13_1 + 1)), (pF), H', ⟨by have := HK1.out; omega⟩, ⟨by (with_reducible repeat (first | apply Kd.S_alloc | apply Kd.S_drewN | apply Kd.S_drew)); exact Kd.S_mono HO144.out (fun _ hk => trivial)⟩, ⟨qB HB⟩⟩
def bvals (s : List Bool) : Array Value := (s.map Value.bool).toArray
def bfs : List Bool := List.replicate 64 false
theorem bvals_cell {w : World} {g t : Nat} {s : List Bool} (h : w.heap[g]? = some (.cells (bvals s) t (0, 0))) (i : Int) (h0 : 0 ≤ i) (h1 : i < s.length) : w.cell? ⟨g, i.toNat, none⟩ = some (.bool (s.getD i.toNat false)) := by
  rw [blk_cell h]
  have hi : i.toNat < s.length := by omega
  simp [bvals, List.getD_eq_getElem?_getD, List.getElem?_eq_getElem hi]
theorem bvals_set (s : List Bool) (i : Nat) (x : Bool) : (bvals s).setIfInBounds i (.bool x) = bvals (s.set i x) := by
  simp [bvals, List.map_set]
/-- Are all cells there, from the i-th one on? -/
def store_Put.a0 (n : Nat) (l1 : List Int) : Nat → Nat → Bool
 | 0, _ => true
 | q + 1, i => if rd l1 (i : Int) < 0 then false else if (n : Int) ≤ rd l1 (i : Int) then false else store_Put.a0 n l1 q (i + 1)
/-- Is none met twice? -/
def store_Put.a1 (l1 : List Int) : Nat → Nat → List Bool → Bool
 | 0, _, _ => true
 | q + 1, i, s => if s.getD (rd l1 (i : Int)).toNat false = true then false else store_Put.a1 l1 q (i + 1) (s.set (rd l1 (i : Int)).toNat true)
def store_Put.a2 (l1 : List Int) (l2 : List S80) : Nat → Nat → List S80 → List S80
 | 0, _, V => V
 | q + 1, i, V => store_Put.a2 l1 l2 q (i + 1) (V.set (rd l1 (i : Int)).toNat (rd_T80 l2 (i : Int)))
def store_Put.f (V : List S80) (l1 : List Int) (l2 : List S80) : Int × List S80 :=
 if l1.length = l2.length then (if store_Put.a0 V.length l1 l1.length 0 = true then (if store_Put.a1 l1 l1.length 0 bfs = true then (0, store_Put.a2 l1 l2 l1.length 0 V) else (16, V)) else (11, V)) else (1, V)
theorem store_Put.a0_all {n : Nat} {l1 : List Int} : ∀ {q i : Nat}, store_Put.a0 n l1 q i = true → ∀ j, i ≤ j → j < i + q → 0 ≤ rd l1 (j : Int) ∧ rd l1 (j : Int) < (n : Int)
 | 0, i, _, j, h1, h2 => by omega
 | q + 1, i, h, j, h1, h2 => by
  rw [store_Put.a0] at h
  split at h
  · cases h
  · split at h
    · cases h
    · by_cases e : j = i
      · subst e; omega
      · exact store_Put.a0_all h j (by omega) (by omega)
theorem bcopy (a : Bool) (l m : List Int) (x y : Int) (hl : l.length ≤ 1000) (hm : m.length ≤ 1000) : bank_Copy.f a l m x y = some (a, l, m, x, y) := by
  simp [bank_Copy.f, bank_copied.f]
  rw [if_pos (by omega), if_pos (by omega)]
  rfl
def store_Put.T22 : Bool × List (List Nat × List Nat) := (true, [([], []), ([0], [0]), ([1], [1]), ([2], [2]), ([], []), ([], []), ([], []), ([5, 6], [5, 6]), ([7], [7]), ([8], [8]), ([3, 4, 0, 1, 2, 3, 4, 5, 6, 7, 8, 9], [3, 4]), ([10, 9, 9, 0, 1, 2, 3, 4, 5, 6, 7, 8, 9], [9, 10])])
def store_Put.B22 : List Nat := [0, 1, 3, 7, 0, 0, 0, 96, 224, 480, 1023, 2047]
theorem store_Put.tab22 : rtab .any (opsOf Try.f37 22) = store_Put.T22 := by kernel_rfl
theorem store_Put.bits22 : waitsOk store_Put.T22.2 store_Put.B22 = true := by kernel_rfl
set_option maxHeartbeats 16000000 in
set_option maxRecDepth 100000 in
theorem store_Put.calls (gs gr c : Nat) (V : List S80) (ver : Int) (ok : Nat → Prop) (A1 : Option Addr) (c1 : Nat) (l1 : List Int) (A2 : Option Addr) (c2 : Nat) (l2 : List S80) (w0 w : World)
  (hst : w.heap[gs]? = some (.cells #[.slice (some ⟨gr, 0, none⟩) V.length c, .int .i64 ver] 89 (0, 0))) (hV : Kd.S k80 80 w w0.heap.size ok (.slice (some ⟨gr, 0, none⟩) V.length c) V) (hok : ∀ k, ok k → k ≠ gs) (hBs : w0.heap.size ≤ gs) (hBr : w0.heap.size ≤ gr) (hsr : gs ≠ gr) (h64 : V.length ≤ 64) (hn : l1.length ≤ 1000000)
  (hB : Below w0.heap.size w0 w) (hr1 : ∀ w', Below w0.heap.size w0 w' → (∀ k, k < w.heap.size → k ≠ gs → k ≠ gr → w'.heap[k]? = w.heap[k]?) → Kd.C (Kd.int .i64) w' A1 l1.length l1) (hr2 : ∀ w', Below w0.heap.size w0 w' → (∀ k, k < w.heap.size → k ≠ gs → k ≠ gr → w'.heap[k]? = w.heap[k]?) → Kd.C k80 w' A2 l2.length l2) (hA2 : 0 < l2.length → ∀ ad, A2 = some ad → ad.block ≠ gr) (hw : ∀ x ∈ l2, x.f0.f1.length ≤ 1000 ∧ x.f0.f2.length ≤ 1000) :
  Calls Try.prog 37 #[.pointer (some ⟨gs, 0, none⟩), .slice A1 l1.length c1, .slice A2 l2.length c2] w fun e w' => e = .returned (.int .i64 (store_Put.f V l1 l2).1) ∧ w'.heap[gs]? = some (.cells #[.slice (some ⟨gr, 0, none⟩) V.length c, .int .i64 (if (store_Put.f V l1 l2).1 = 0 then wrap64 (ver + 1) else ver)] 89 (0, 0)) ∧ Kd.S k80 80 w' w0.heap.size (fun k => k ≠ gs) (.slice (some ⟨gr, 0, none⟩) V.length c) (store_Put.f V l1 l2).2 ∧ Below w0.heap.size w0 w' ∧ (∀ k, k < w.heap.size → k ≠ gs → k ≠ gr → w'.heap[k]? = w.heap[k]?) := by
 have hu80 := Try.underlying80
 have hu89 := Try.underlying89
 have hu95 := Try.underlying95
 have HS := aM hst
 have HV := aM (Kd.S_mono hV hok)
 have HBw := aM hB
 have HR1 := aM hr1
 have HR2 := aM hr2
 have HA2 := aM hA2
 have HW := aM hw
 have HX := aM (show w0.heap.size ≤ gs ∧ w0.heap.size ≤ gr ∧ gs ≠ gr ∧ V.length ≤ 64 ∧ l1.length ≤ 1000000 from ⟨hBs, hBr, hsr, h64, hn⟩)
 clear hst hV hok hB hr1 hr2 hA2 hw hBs hBr hsr h64 hn
 have HB := aM (Below.refl w.heap.size w)
 have END : ∀ {w' : World}, Below w.heap.size w w' → w'.heap[gs]? = some (.cells #[.slice (some ⟨gr, 0, none⟩) V.length c, .int .i64 ver] 89 (0, 0)) ∧ Kd.S k80 80 w' w0.heap.size (fun k => k ≠ gs) (.slice (some ⟨gr, 0, none⟩) V.length c) V ∧ Below w0.heap.size w0 w' ∧ (∀ k, k < w.heap.size → k ≠ gs → k ≠ gr → w'.heap[k]? = w.heap[k]?) := fun hb => ⟨blk_below HS.out hb, Kd.S_below HV.out hb, (below_step HBw.out hb), fun k hk _ _ => hb.block k hk⟩
 have FIN := aM (show ∀ {w' : World}, Below w.heap.size w w' → w'.heap[gs]? = some (.cells #[.slice (some ⟨gr, 0, none⟩) V.length c, .int .i64 ver] 89 (0, 0)) ∧ Kd.S k80 80 w' w0.heap.size (fun k => k ≠ gs) (.slice (some ⟨gr, 0, none⟩) V.length c) V ∧ Below w0.heap.size w0 w' ∧ (∀ k, k < w.heap.size → k ≠ gs → k ≠ gr → w'.heap[k]? = w.heap[k]?) from END)
 clear END
 by_cases hl : l1.length = l2.length
 rotate_left
 ·have ef : store_Put.f V l1 l2 = (1, V) := by rw [store_Put.f, if_neg hl]
  rw [ef]
  have hl' : ¬ ((l1.length : Int) = (l2.length : Int)) := by omega
  have b1 : ((l1.length : Int) != (l2.length : Int)) = true := bne_iff_ne.mpr hl'
  have b2 : ((l1.length : Int) == (l2.length : Int)) = false := beq_eq_false_iff_ne.mpr hl'
  have b3 : (l1.length == l2.length) = false := beq_eq_false_iff_ne.mpr hl
  clear ef
  go_enter Try.func37, Try.ntmps37
  go_wp2
  go_ret
  exact ⟨pE, FIN.out (qB HB)⟩
 obtain ⟨R0, hR0⟩ : ∃ b, store_Put.a0 V.length l1 l1.length 0 = b := ⟨_, rfl⟩
 obtain ⟨R1, hR1⟩ : ∃ b, store_Put.a1 l1 l1.length 0 bfs = b := ⟨_, rfl⟩
 obtain ⟨RV, hRV⟩ : ∃ b, store_Put.a2 l1 l2 l1.length 0 V = b := ⟨_, rfl⟩
 have ef : store_Put.f V l1 l2 = if R0 = true then (if R1 = true then (0, RV) else (16, V)) else (11, V) := by rw [store_Put.f, if_pos hl, hR0, hR1, hRV]
 rw [ef]
 clear ef
 have HL := aM hl
 have A0_ := aM hR0
 have A1_ := aM hR1
 have A2_ := aM hRV
 have b1 : ((l1.length : Int) != (l2.length : Int)) = false := bne_eq_false_iff_eq.mpr (by omega)
 have b2 : ((l1.length : Int) == (l2.length : Int)) = true := beq_iff_eq.mpr (by omega)
 have b3 : (l1.length == l2.length) = true := beq_iff_eq.mpr hl
 clear hl hR0 hR1 hRV
 go_enter Try.func37, Try.ntmps37
 go_upto_region 5 with (fail)
 refine wp_region_lit ?_
 refine box_event ?hg (N := 7) ?hd (cs := bvals bfs) (t := 95) ?hr ?_
 (case hd => rfl)
 (case hg => rfl)
 (case hr => first | (go_simp; done) | (go_simp; rfl))
 intro gm hg w10 hbox hb
 have BM := aM hbox
 have GE := gE (w := w) hg (qB HB)
 replace HB := bS (qB HB) hb
 clear hb hbox hg b1 b2 b3
 go_wp2
 go_loopg [23] l1.length (fun kq v23 w' => ∃ (i : Nat), v23 = .int .i64 (i : Int) ∧ Aside0 (i + kq = l1.length) ∧ Aside0 (store_Put.a0 V.length l1 kq i = R0) ∧ Aside0 (w'.heap[gm]? = some (.cells (bvals bfs) 95 (0, 0))) ∧ Aside0 (Below w.heap.size w w'))
 case atStart => exact ⟨0, rfl, ⟨by omega⟩, A0_, BM, HB⟩
 case round =>
  clear BM HB
  obtain ⟨i, rfl, HK, HA, BM, HB⟩ := hrel
  cases gk with
  | succ kq =>
   have H := HA.out
   clear HA
   rw [store_Put.a0] at H
   have hi : i < l1.length := by have := HK.out; omega
   have d1 : decide ((i : Int) < (l1.length : Int)) = true := decide_eq_true (by omega)
   have d1n : decide (i < l1.length) = true := decide_eq_true hi
   have p1 : (0 ≤ (i : Int)) = True := eq_true (by omega)
   have q1 : ((i : Int) < (l1.length : Int)) = True := eq_true (by omega)
   have q1n : (i < l1.length) = True := eq_true hi
   have HBc := aM (below_step HBw.out HB.out)
   obtain ⟨ad, ead, hx⟩ := Kd.at_int (HR1.out _ HBc.out (fun k a_ _ _ => HB.out.block k a_)) (i : Int) (by omega) (by omega)
   cases ead
   rw [Int.toNat_natCast] at hx
   have hczs := blk2 (blk_below HS.out HB.out)
   by_cases c1_ : rd l1 (i : Int) < 0
   ·rw [if_pos c1_] at H
    subst H
    have e1 : decide (rd l1 (i : Int) < 0) = true := decide_eq_true c1_
    go_wp2
    go_ret
    exact ⟨pE, FIN.out (qB HB)⟩
   rw [if_neg c1_] at H
   have e1 : decide (rd l1 (i : Int) < 0) = false := decide_eq_false c1_
   by_cases c2_ : (V.length : Int) ≤ rd l1 (i : Int)
   ·rw [if_pos c2_] at H
    subst H
    have e2 : decide (rd l1 (i : Int) ≥ (V.length : Int)) = true := decide_eq_true c2_
    have e3 : decide ((V.length : Int) ≤ rd l1 (i : Int)) = true := decide_eq_true c2_
    go_wp2
    go_ret
    exact ⟨pE, FIN.out (qB HB)⟩
   rw [if_neg c2_] at H
   have e2 : decide (rd l1 (i : Int) ≥ (V.length : Int)) = false := decide_eq_false c2_
   have e3 : decide ((V.length : Int) ≤ rd l1 (i : Int)) = false := decide_eq_false c2_
   have H1 := aM H
   clear H
   go_wp2
   go_roundg kq
   case measure => omega
   case rel => exact ⟨i + 1, by first | rfl | (rw [w64o (by have := HK.out; have := HX.out; omega) (by have := HK.out; have := HX.out; omega)]; rfl), ⟨by have := HK.out; omega⟩, H1, ⟨by first | exact BM.out | (with_reducible repeat (first | apply bN | apply bD | apply bA)); exact BM.out⟩, ⟨qB HB⟩⟩
  | zero =>
   have H := HA.out
   rw [store_Put.a0] at H
   subst H
   have hin : i = l1.length := by have := HK.out; omega
   clear HA HK
   subst hin
   have ALL := aM (store_Put.a0_all A0_.out)
   have d1 : decide ((l1.length : Int) < (l1.length : Int)) = false := decide_eq_false (by omega)
   have d1n : decide (l1.length < l1.length) = false := decide_eq_false (by omega)
   go_wp2
   go_loopg [41] l1.length (fun kq v41 w' => ∃ (i : Nat) (s : List Bool), v41 = .int .i64 (i : Int) ∧ Aside0 (i + kq = l1.length) ∧ Aside0 (store_Put.a1 l1 kq i s = R1) ∧ Aside0 (s.length = 64) ∧ Aside0 (w'.heap[gm]? = some (.cells (bvals s) 95 (0, 0))) ∧ Aside0 (Below w.heap.size w w'))
   case atStart => exact ⟨0, bfs, rfl, ⟨by omega⟩, A1_, ⟨by simp [bfs]⟩, ⟨by first | exact BM.out | (with_reducible repeat (first | apply bN | apply bD | apply bA)); exact BM.out⟩, ⟨qB HB⟩⟩
   case round =>
    clear BM HB
    obtain ⟨i, s, rfl, HK, HA, HN, BM, HB⟩ := hrel
    cases gk with
    | succ kq =>
     have H := HA.out
     clear HA
     rw [store_Put.a1] at H
     have hi : i < l1.length := by have := HK.out; omega
     obtain ⟨g0, g1⟩ := ALL.out i (by omega) (by omega)
     have d1 : decide ((i : Int) < (l1.length : Int)) = true := decide_eq_true (by omega)
     have d1n : decide (i < l1.length) = true := decide_eq_true hi
     have p1 : (0 ≤ (i : Int)) = True := eq_true (by omega)
     have q1 : ((i : Int) < (l1.length : Int)) = True := eq_true (by omega)
     have q1n : (i < l1.length) = True := eq_true hi
     have p2 : (0 ≤ rd l1 (i : Int)) = True := eq_true g0
     have q2 : (rd l1 (i : Int) < 64) = True := eq_true (by have := HX.out; omega)
     have HBc := aM (below_step HBw.out HB.out)
     obtain ⟨ad, ead, hx⟩ := Kd.at_int (HR1.out _ HBc.out (fun k a_ _ _ => HB.out.block k a_)) (i : Int) (by omega) (by omega)
     cases ead
     rw [Int.toNat_natCast] at hx
     have hx2 := bvals_cell BM.out (rd l1 (i : Int)) g0 (by have := HX.out; have := HN.out; omega)
     have hf2 := blk_frozen BM.out (rd l1 (i : Int)).toNat
     by_cases c1_ : s.getD (rd l1 (i : Int)).toNat false = true
     ·rw [if_pos c1_] at H
      subst H
      rw [c1_] at hx2
      go_wp2
      go_ret
      exact ⟨pE, FIN.out (qB HB)⟩
     rw [if_neg c1_] at H
     rw [Bool.eq_false_iff.mpr c1_] at hx2
     have H1 := aM H
     clear H
     go_wp2
     go_roundg kq
     case measure => omega
     case rel => exact ⟨i + 1, _, by first | rfl | (rw [w64o (by have := HK.out; have := HX.out; omega) (by have := HK.out; have := HX.out; omega)]; rfl), ⟨by have := HK.out; omega⟩, H1, ⟨by rw [List.length_set]; exact HN.out⟩, ⟨blk_put BM.out _ _ (bvals_set _ _ _)⟩, ⟨below_set HB.out GE.out⟩⟩
    | zero =>
     have H := HA.out
     rw [store_Put.a1] at H
     subst H
     have hin : i = l1.length := by have := HK.out; omega
     clear HA HK
     subst hin
     have d1 : decide ((l1.length : Int) < (l1.length : Int)) = false := decide_eq_false (by omega)
     have d1n : decide (l1.length < l1.length) = false := decide_eq_false (by omega)
     go_wp2
     have FI := FIN
     clear FIN
     go_loopg [53] l1.length (fun kq v53 w' => ∃ (i : Nat) (U : List S80), v53 = .int .i64 (i : Int) ∧ Aside0 (i + kq = l1.length) ∧ Aside0 (store_Put.a2 l1 l2 kq i U = RV) ∧ Aside0 (U.length = V.length) ∧ Aside0 (w'.heap[gs]? = some (.cells #[.slice (some ⟨gr, 0, none⟩) V.length c, .int .i64 ver] 89 (0, 0))) ∧ Aside0 (Kd.S k80 80 w' w0.heap.size (fun k => k ≠ gs) (.slice (some ⟨gr, 0, none⟩) V.length c) U) ∧ Aside0 (Below w0.heap.size w0 w') ∧ Aside0 (w.heap.size ≤ w'.heap.size ∧ ∀ k, k < w.heap.size → k ≠ gs → k ≠ gr → w'.heap[k]? = w.heap[k]?))
     case atStart => exact ⟨0, V, rfl, ⟨by omega⟩, A2_, ⟨rfl⟩, ⟨(FI.out (qB HB)).1⟩, ⟨(FI.out (qB HB)).2.1⟩, ⟨(FI.out (qB HB)).2.2.1⟩, ⟨below_size (qB HB), (FI.out (qB HB)).2.2.2⟩⟩
     case round =>
      clear BM HB FI
      obtain ⟨i, U, rfl, HK, HA, HN2, HSi, HU, HBi, HF⟩ := hrel
      cases gk with
      | succ kq =>
       have H := HA.out
       clear HA
       rw [store_Put.a2] at H
       have H1 := aM H
       clear H
       have hi : i < l1.length := by have := HK.out; omega
       have hi2 : (i : Int) < (l2.length : Int) := by have := HL.out; omega
       obtain ⟨g0, g1⟩ := ALL.out i (by omega) (by omega)
       have d1 : decide ((i : Int) < (l1.length : Int)) = true := decide_eq_true (by omega)
       have d1n : decide (i < l1.length) = true := decide_eq_true hi
       have p1 : (0 ≤ (i : Int)) = True := eq_true (by omega)
       have q1 : ((i : Int) < (l1.length : Int)) = True := eq_true (by omega)
       have q1n : (i < l1.length) = True := eq_true hi
       have q3 : ((i : Int) < (l2.length : Int)) = True := eq_true hi2
       have q3n : (i < l2.length) = True := eq_true (by omega)
       have p2 : (0 ≤ rd l1 (i : Int)) = True := eq_true g0
       have q2 : (rd l1 (i : Int) < (V.length : Int)) = True := eq_true g1
       have hem : (rd_T80 l2 (i : Int)) ∈ l2 := by
        unfold rd_T80
        rw [List.getD_eq_getElem?_getD, List.getElem?_eq_getElem (show (i : Int).toNat < l2.length by omega)]
        exact List.getElem_mem _
       have AC := aM (bcopy (rd_T80 l2 (i : Int)).f0.f0 (rd_T80 l2 (i : Int)).f0.f1 (rd_T80 l2 (i : Int)).f0.f2 (rd_T80 l2 (i : Int)).f1 (rd_T80 l2 (i : Int)).f2 (HW.out _ hem).1 (HW.out _ hem).2)
       clear hem
       obtain ⟨ad, ead, hx⟩ := Kd.at_int (HR1.out _ HBi.out HF.out.2) (i : Int) (by omega) (by omega)
       cases ead
       rw [Int.toNat_natCast] at hx
       obtain ⟨ad2, B1, b1, B2, b2, ead2, hy0, hy1, hy2, hy3, hy4, hl1, hi1, hl2, hi2_⟩ := at_T80 (HR2.out _ HBi.out HF.out.2) (i : Int) (by omega) hi2
       cases ead2
       have hne := HA2.out (by omega) _ rfl
       have HI1 := aM hi1
       have HL1 := aM hl1
       have HI2 := aM hi2_
       have HL2 := aM hl2
       have HY := aM (And.intro hy0 (And.intro hy1 (And.intro hy2 (And.intro hy3 hy4))))
       clear hi1 hl1 hi2_ hl2 hy0 hy1 hy2 hy3 hy4
       go_wp2
       replace HSi := aM (blk_drew HSi.out)
       replace HU := aM (Kd.S_drew HU.out)
       replace HBi := aM (below_drew1 HBi.out)
       have HYd : Aside0 (wr.drew.cell? (ad2.add (i * 5)) = some (.bool ((rd_T80 l2 (i : Int)).f0.f0)) ∧ wr.drew.cell? ⟨(ad2.add (i * 5)).block, (ad2.add (i * 5)).off + 1, none⟩ = some (.slice B1 ((rd_T80 l2 (i : Int)).f0.f1).length b1) ∧ wr.drew.cell? ⟨(ad2.add (i * 5)).block, (ad2.add (i * 5)).off + 2, none⟩ = some (.slice B2 ((rd_T80 l2 (i : Int)).f0.f2).length b2) ∧ wr.drew.cell? ⟨(ad2.add (i * 5)).block, (ad2.add (i * 5)).off + 3, none⟩ = some (.int .u64 ((rd_T80 l2 (i : Int)).f1)) ∧ wr.drew.cell? ⟨(ad2.add (i * 5)).block, (ad2.add (i * 5)).off + 4, none⟩ = some (.int .i64 ((rd_T80 l2 (i : Int)).f2))) := ⟨HY.out⟩
       clear HY
       replace HI1 := aM (Kd.C_drew HI1.out)
       replace HI2 := aM (Kd.C_drew HI2.out)
       replace HF := aM (show w.heap.size ≤ wr.drew.heap.size ∧ ∀ k, k < w.heap.size → k ≠ gs → k ≠ gr → wr.drew.heap[k]? = w.heap[k]? from HF.out)
       refine start_ (n := 12) (S := fun w' => w'.cell? ⟨gs, 0, none⟩ = some (.slice (some ⟨gr, 0, none⟩) V.length c) ∧ w'.cell? (ad2.add (i * 5)) = some (.bool ((rd_T80 l2 (i : Int)).f0.f0)) ∧ w'.cell? ⟨(ad2.add (i * 5)).block, (ad2.add (i * 5)).off + 1, none⟩ = some (.slice B1 ((rd_T80 l2 (i : Int)).f0.f1).length b1) ∧ w'.cell? ⟨(ad2.add (i * 5)).block, (ad2.add (i * 5)).off + 2, none⟩ = some (.slice B2 ((rd_T80 l2 (i : Int)).f0.f2).length b2) ∧ w'.cell? ⟨(ad2.add (i * 5)).block, (ad2.add (i * 5)).off + 3, none⟩ = some (.int .u64 ((rd_T80 l2 (i : Int)).f1)) ∧ w'.cell? ⟨(ad2.add (i * 5)).block, (ad2.add (i * 5)).off + 4, none⟩ = some (.int .i64 ((rd_T80 l2 (i : Int)).f2))) (ds := []) (bm 12 0) (by kernel_rfl) rfl rfl ⟨(blk_cell HSi.out 0).trans rfl, HYd.out⟩ (fun hHeld => ?_); refine with_tabW store_Put.tab22 store_Put.bits22 (fun HT_ HW_ => ?_)
       clear hx
       generalize wr.drew = wd at HSi HU HBi HF HYd HI1 HI2 hHeld ⊢
       refine pP (i := 0) (N := some 58) (bm 12 1) rfl rfl HT_.out ?_
       refine pP (i := 1) (N := some 59) (bm 12 3) rfl rfl HT_.out ?_
       refine pP (i := 2) (N := some 60) (bm 12 7) rfl rfl HT_.out ?_
       refine pT (i := 3) (N := some 61) (bm 12 15) rfl rfl HT_.out HW_.out hHeld (by rintro w' ⟨s0, s1, s2, s3, s4, s5⟩; go_simp; with_reducible rfl) ?_
       refine pP (i := 4) (N := some 62) (bm 12 31) rfl rfl HT_.out ?_
       refine pP (i := 5) (N := some 63) (bm 12 63) rfl rfl HT_.out ?_
       refine pP (i := 6) (N := some 64) (bm 12 127) rfl rfl HT_.out ?_
       refine pP (i := 7) (N := some 65) (bm 12 255) rfl rfl HT_.out ?_
       refine pT (i := 8) (N := some 66) (bm 12 511) rfl rfl HT_.out HW_.out hHeld (by rintro w' ⟨s0, s1, s2, s3, s4, s5⟩; go_simp; with_reducible rfl) ?_
       refine one_ (i := 9) (N := some 67) (bm 12 1023) rfl rfl (one_of HT_.out (by kernel_rfl)) (by decide) (fun K hK => ?_)
       refine goes_ Try.func48 (by kernel_rfl) rfl #[.agg #[.bool ((rd_T80 l2 (i : Int)).f0.f0), .slice B1 ((rd_T80 l2 (i : Int)).f0.f1).length b1, .slice B2 ((rd_T80 l2 (i : Int)).f0.f2).length b2, .int .u64 ((rd_T80 l2 (i : Int)).f1), .int .i64 ((rd_T80 l2 (i : Int)).f2)]] (by rfl) rfl rfl pA ?_
       with_reducible refine (bank_Copy.calls ((rd_T80 l2 (i : Int)).f0.f0) _ _ ((rd_T80 l2 (i : Int)).f0.f1) _ _ ((rd_T80 l2 (i : Int)).f0.f2) ((rd_T80 l2 (i : Int)).f1) ((rd_T80 l2 (i : Int)).f2) _ _ _ _ _ _ ?s1 ?s2 ?s3 ?s4 AC.out).mono ?_
       (case s1 => exact HI1.out)
       (case s2 => exact HL1.out)
       (case s3 => exact HI2.out)
       (case s4 => exact HL2.out)
       rintro e w12 ⟨v1, v2, rfl, ho1, ho2, hb⟩
       refine ⟨_, rfl, ?_⟩
       obtain ⟨Y1, y1, ey1⟩ := Kd.R_slice ho1
       subst ey1
       obtain ⟨Y2, y2, ey2⟩ := Kd.R_slice ho2
       subst ey2
       have hgs : gs < wd.heap.size := blk_lt HSi.out
       have hgr : gr < wd.heap.size := Kd.S_lt HU.out gr (by simp [Value.ownBlock])
       have hw0 : w0.heap.size ≤ wd.heap.size := below_size HBi.out
       have hb1 := Kd.R_base ho1
       have hb2 := Kd.R_base ho2
       have HO := aM (Kd.S_mono (ok' := fun k => k ≠ gs ∧ ¬ (some k = (Value.slice Y1 ((rd_T80 l2 (i : Int)).f0.f1).length y1).ownBlock ∨ some k = (Value.slice Y2 ((rd_T80 l2 (i : Int)).f0.f2).length y2).ownBlock)) (Kd.S_old HU.out hb) (fun k hk => ⟨hk.1, fun h_ => h_.elim (fun e_ => by have := hb1 k e_.symm; have := hk.2; omega) (fun e_ => by have := hb2 k e_.symm; have := hk.2; omega)⟩))
       have HM := aM (k80_mkM w12 w0.heap.size (fun k => some k = (Value.slice Y1 ((rd_T80 l2 (i : Int)).f0.f1).length y1).ownBlock ∨ some k = (Value.slice Y2 ((rd_T80 l2 (i : Int)).f0.f2).length y2).ownBlock) (rd_T80 l2 (i : Int)) (Kd.R_mono (Kd.R_tight rfl (Kd.R_lower ho1 hw0)) (fun _ h_ => Or.inl h_)) (Kd.R_mono (Kd.R_tight rfl (Kd.R_lower ho2 hw0)) (fun _ h_ => Or.inr h_)))
       have HG := aM (show ∀ k, (some k = (Value.slice Y1 ((rd_T80 l2 (i : Int)).f0.f1).length y1).ownBlock ∨ some k = (Value.slice Y2 ((rd_T80 l2 (i : Int)).f0.f2).length y2).ownBlock) → k ≠ gs ∧ k ≠ gr from fun k h_ => h_.elim (fun e_ => by have := hb1 k e_.symm; omega) (fun e_ => by have := hb2 k e_.symm; omega))
       replace HSi := aM (blk_below HSi.out hb)
       replace HF := aM (show w.heap.size ≤ w12.heap.size ∧ ∀ k, k < w.heap.size → k ≠ gs → k ≠ gr → w12.heap[k]? = w.heap[k]? from ⟨Nat.le_trans HF.out.1 (below_size hb), fun k a_ b_ c_ => (hb.block k (Nat.lt_of_lt_of_le a_ HF.out.1)).trans (HF.out.2 k a_ b_ c_)⟩)
       replace HBi := aM (below_step HBi.out hb)
       have mvb : ∀ {a : Addr} {v : Value}, wd.cell? a = some v → w12.cell? a = some v := fun h_ => (hb.cell (World.block_lt_of_cell? wd _ h_)).trans h_
       have HYe : Aside0 (w12.cell? (ad2.add (i * 5)) = some (.bool ((rd_T80 l2 (i : Int)).f0.f0)) ∧ w12.cell? ⟨(ad2.add (i * 5)).block, (ad2.add (i * 5)).off + 1, none⟩ = some (.slice B1 ((rd_T80 l2 (i : Int)).f0.f1).length b1) ∧ w12.cell? ⟨(ad2.add (i * 5)).block, (ad2.add (i * 5)).off + 2, none⟩ = some (.slice B2 ((rd_T80 l2 (i : Int)).f0.f2).length b2) ∧ w12.cell? ⟨(ad2.add (i * 5)).block, (ad2.add (i * 5)).off + 3, none⟩ = some (.int .u64 ((rd_T80 l2 (i : Int)).f1)) ∧ w12.cell? ⟨(ad2.add (i * 5)).block, (ad2.add (i * 5)).off + 4, none⟩ = some (.int .i64 ((rd_T80 l2 (i : Int)).f2))) := ⟨mvb HYd.out.1, mvb HYd.out.2.1, mvb HYd.out.2.2.1, mvb HYd.out.2.2.2.1, mvb HYd.out.2.2.2.2⟩
       clear HYd mvb
       clear HU ho1 ho2 hb hb1 hb2 hw0 hgs hgr
       refine hK.out _ _ ⟨(blk_cell HSi.out 0).trans rfl, HYe.out⟩ (fun hHeld => ?_)
       clear hK K
       refine norm_ (a' := ?_) ?_ ?_
       rotate_left
       ·show Act.put _ (some 67) _ = _
        simp only [Act.put, sP, i64_w, i32_w]
        rfl
       refine pP (i := 10) (N := some 68) (bm 12 2047) rfl rfl HT_.out ?_
       obtain ⟨oki, cc, hcl, hM0, hcc, hfr, hoki, hH⟩ := Kd.S_elem HO.out z80 (rd l1 (i : Int)) g0 g1
       obtain ⟨t0, t1, t2, t3, t4, rfl⟩ : ∃ t0 t1 t2 t3 t4, cc = [t0, t1, t2, t3, t4] := by
        match cc, hcl with
        | [t0, t1, t2, t3, t4], _ => exact ⟨t0, t1, t2, t3, t4, rfl⟩
       have hs0 : w12.cell? ⟨gr, (rd l1 (i : Int)).toNat * 5, none⟩ = some t0 := hcc 0 _ rfl
       have hs1 : w12.cell? ⟨gr, (rd l1 (i : Int)).toNat * 5 + 1, none⟩ = some t1 := hcc 1 _ rfl
       have hs2 : w12.cell? ⟨gr, (rd l1 (i : Int)).toNat * 5 + 2, none⟩ = some t2 := hcc 2 _ rfl
       have hs3 : w12.cell? ⟨gr, (rd l1 (i : Int)).toNat * 5 + 3, none⟩ = some t3 := hcc 3 _ rfl
       have hs4 : w12.cell? ⟨gr, (rd l1 (i : Int)).toNat * 5 + 4, none⟩ = some t4 := hcc 4 _ rfl
       have hf0 : w12.frozen? ⟨gr, (rd l1 (i : Int)).toNat * 5, none⟩ = false := hfr 0
       have hf1 : w12.frozen? ⟨gr, (rd l1 (i : Int)).toNat * 5 + 1, none⟩ = false := hfr 1
       have hf2 : w12.frozen? ⟨gr, (rd l1 (i : Int)).toNat * 5 + 2, none⟩ = false := hfr 2
       have hf3 : w12.frozen? ⟨gr, (rd l1 (i : Int)).toNat * 5 + 3, none⟩ = false := hfr 3
       have hf4 : w12.frozen? ⟨gr, (rd l1 (i : Int)).toNat * 5 + 4, none⟩ = false := hfr 4
       have SEG := aM (Kd.S_seg (ok := fun k => k ≠ gs) (okg := fun k => some k = (Value.slice Y1 ((rd_T80 l2 (i : Int)).f0.f1).length y1).ownBlock ∨ some k = (Value.slice Y2 ((rd_T80 l2 (i : Int)).f0.f2).length y2).ownBlock) hH g0 g1 (seg := [.bool ((rd_T80 l2 (i : Int)).f0.f0), .slice Y1 ((rd_T80 l2 (i : Int)).f0.f1).length y1, .slice Y2 ((rd_T80 l2 (i : Int)).f0.f2).length y2, .int .u64 ((rd_T80 l2 (i : Int)).f1), .int .i64 ((rd_T80 l2 (i : Int)).f2)]) (j := 0) (by exact Nat.le_refl 5) (x' := (rd_T80 l2 (i : Int))) HM.out (fun _ h_ => Or.inr h_) (fun k h_ => HG.out k h_))
       have HGR := aM (HX.out.2.1)
       refine one_ (i := 11) (N := none) (bm 12 4095) rfl rfl (one_of HT_.out (by kernel_rfl)) (by decide) (fun K hK => ?_)
       refine skip_ (w1 := ?_) (by rfl) rfl ?_ ?_
       rotate_left
       ·go_simp
        rfl
       suffices h_ : K _ (w12.setCells gr ((rd l1 (i : Int)).toNat * k80.sz + 0) [.bool ((rd_T80 l2 (i : Int)).f0.f0), .slice Y1 ((rd_T80 l2 (i : Int)).f0.f1).length y1, .slice Y2 ((rd_T80 l2 (i : Int)).f0.f2).length y2, .int .u64 ((rd_T80 l2 (i : Int)).f1), .int .i64 ((rd_T80 l2 (i : Int)).f2)]) from h_
       have hgr : gr < w12.heap.size := Kd.S_lt HO.out gr (by simp [Value.ownBlock])
       have hgs : gs < w12.heap.size := blk_lt HSi.out
       clear hs0 hs1 hs2 hs3 hs4 hf0 hf1 hf2 hf3 hf4 hcc hfr hH hM0 hoki hcl HM HG HO hHeld
       generalize w12.setCells gr ((rd l1 (i : Int)).toNat * k80.sz + 0) [.bool ((rd_T80 l2 (i : Int)).f0.f0), .slice Y1 ((rd_T80 l2 (i : Int)).f0.f1).length y1, .slice Y2 ((rd_T80 l2 (i : Int)).f0.f2).length y2, .int .u64 ((rd_T80 l2 (i : Int)).f1), .int .i64 ((rd_T80 l2 (i : Int)).f2)] = w13 at SEG ⊢
       obtain ⟨s1, s2⟩ := SEG.out
       clear SEG
       replace HSi := aM ((s2.block gs hgs (fun e_ => HX.out.2.2.1 (Option.some.inj e_))).trans HSi.out)
       replace HF := aM (show w.heap.size ≤ w13.heap.size ∧ ∀ k, k < w.heap.size → k ≠ gs → k ≠ gr → w13.heap[k]? = w.heap[k]? from ⟨Nat.le_trans HF.out.1 s2.size, fun k a_ b_ c_ => (s2.block k (Nat.lt_of_lt_of_le a_ HF.out.1) (fun e_ => c_ (Option.some.inj e_))).trans (HF.out.2 k a_ b_ c_)⟩)
       replace HBi := aM (HBi.out.grown s2 (below_size HBi.out) (fun k e_ => by cases e_; exact HX.out.2.1))
       have HU := aM s1
       have mvb : ∀ {a : Addr} {v : Value}, a.block ≠ gr → w12.cell? a = some v → w13.cell? a = some v := fun hn_ h_ => (World.cell?_of_block (s2.block _ (World.block_lt_of_cell? w12 _ h_) (fun e_ => hn_ (Option.some.inj e_)))).trans h_
       have hnb : (ad2.add (i * 5)).block ≠ gr := by rw [show (ad2.add (i * 5)).block = ad2.block by unfold Addr.add; split <;> rfl]; exact hne
       have HYf : Aside0 (w13.cell? (ad2.add (i * 5)) = some (.bool ((rd_T80 l2 (i : Int)).f0.f0)) ∧ w13.cell? ⟨(ad2.add (i * 5)).block, (ad2.add (i * 5)).off + 1, none⟩ = some (.slice B1 ((rd_T80 l2 (i : Int)).f0.f1).length b1) ∧ w13.cell? ⟨(ad2.add (i * 5)).block, (ad2.add (i * 5)).off + 2, none⟩ = some (.slice B2 ((rd_T80 l2 (i : Int)).f0.f2).length b2) ∧ w13.cell? ⟨(ad2.add (i * 5)).block, (ad2.add (i * 5)).off + 3, none⟩ = some (.int .u64 ((rd_T80 l2 (i : Int)).f1)) ∧ w13.cell? ⟨(ad2.add (i * 5)).block, (ad2.add (i * 5)).off + 4, none⟩ = some (.int .i64 ((rd_T80 l2 (i : Int)).f2))) := ⟨mvb hnb HYe.out.1, mvb hnb HYe.out.2.1, mvb hnb HYe.out.2.2.1, mvb hnb HYe.out.2.2.2.1, mvb hnb HYe.out.2.2.2.2⟩
       clear s1 s2 mvb
       refine hK.out _ _ ⟨(blk_cell HSi.out 0).trans rfl, HYf.out⟩ (fun hHeld2 => ?_)
       clear hK K hHeld2
       refine done_ (done_of HT_.out (by kernel_rfl)) ?_
       try go_wp2
       go_roundg kq
       case measure => omega
       case rel => exact ⟨i + 1, _, by first | rfl | (rw [w64o (by have := HK.out; have := HX.out; omega) (by have := HK.out; have := HX.out; omega)]; rfl), ⟨by have := HK.out; omega⟩, H1, ⟨by rw [List.length_set]; exact HN2.out⟩, ⟨by first | exact HSi.out | (with_reducible repeat (first | apply bN | apply bD | apply bA)); exact HSi.out⟩, ⟨by first | exact HU.out | ((with_reducible repeat (first | apply Kd.S_alloc | apply Kd.S_drewN | apply Kd.S_drew)); exact HU.out)⟩, ⟨qB HBi⟩, HF⟩
      | zero =>
       have H := HA.out
       rw [store_Put.a2] at H
       subst H
       have hin : i = l1.length := by have := HK.out; omega
       clear HA HK
       subst hin
       have d1 : decide ((l1.length : Int) < (l1.length : Int)) = false := decide_eq_false (by omega)
       have d1n : decide (l1.length < l1.length) = false := decide_eq_false (by omega)
       have hczs := blk2 HSi.out
       go_wp2
       go_ret
       exact ⟨pE, blk_put HSi.out 1 _ rfl, Kd.S_far HU.out (p := ⟨gs, 1, none⟩) (fun _ hk => hk) _, below_set HBi.out HX.out.1, fun k a_ b_ c_ => (Below.heap_setCell _ ⟨gs, 1, none⟩ _ k b_).trans (HF.out.2 k a_ b_ c_)⟩
end Go.Proofs.Ytmhikecbajkonaa.Q
namespace Go.Proofs.Ytmhikecbajkonaa.Q
open Go.RowKit Go.Proofs.YtmhikecbajkonaaW.PrintWords Go.Proofs.YtmhikecbajkonaaW.PrintLast Go.Proofs.YtmhikecbajkonaaW.PrintMore
attribute [local go_sem] max2_int min2_int max_two min_two max_three min_three max_four min_four
set_option linter.unusedVariables false
set_option linter.unusedSimpArgs false
theorem store_Len.calls (gs : Nat) (A : Option Addr) (n c : Nat) (v : Value) (w : World) (hst : w.heap[gs]? = some (.cells #[.slice A n c, v] 89 (0, 0))) :
  Calls Try.prog 33 #[.pointer (some ⟨gs, 0, none⟩)] w fun e w' => e = .returned (.int .i64 n) ∧ Below w.heap.size w w' := by
 have hu89 := Try.underlying89
 have HS := aM hst
 clear hst
 have HB := aM (Below.refl w.heap.size w)
 have hczs := blk2 HS.out
 go_enter Try.func33, Try.ntmps33
 go_wp2
 go_ret
 exact ⟨pE, qB HB⟩
theorem store_Len.nil (w : World) : Calls Try.prog 33 #[.pointer none] w fun e w' => e = .returned (.int .i64 0) ∧ Below w.heap.size w w' := by
 have HB := aM (Below.refl w.heap.size w)
 go_enter Try.func33, Try.ntmps33
 go_wp2
 go_ret
 exact ⟨pE, qB HB⟩
theorem store_Version.nil (w : World) : Calls Try.prog 41 #[.pointer none] w fun e w' => e = .returned (.int .i64 0) ∧ Below w.heap.size w w' := by
 have HB := aM (Below.refl w.heap.size w)
 go_enter Try.func41, Try.ntmps41
 go_wp2
 go_ret
 exact ⟨pE, qB HB⟩
theorem store_Put.nil (u v : Value) (w : World) : Calls Try.prog 37 #[.pointer none, u, v] w fun e w' => e = .returned (.int .i64 21) ∧ Below w.heap.size w w' := by
 have HB := aM (Below.refl w.heap.size w)
 go_enter Try.func37, Try.ntmps37
 go_wp2
 go_ret
 exact ⟨pE, qB HB⟩
theorem store_Get.nil (u : Value) (w : World) : Calls Try.prog 40 #[.pointer none, u] w fun e w' => e = .returned (.tuple #[.slice none 0 0, .int .i64 21]) ∧ Below w.heap.size w w' := by
 have HB := aM (Below.refl w.heap.size w)
 go_enter Try.func40, Try.ntmps40
 go_wp2
 go_ret2
 exact ⟨pE, qB HB⟩
/-- A scalar whose words lie in the world W. -/
def kE (W : World) : Kd S80 where
  sz := 5
  E := []
  K := fun _ x cs => k80.K W x cs
  M := fun _ _ _ x cs => k80.K W x cs
  K_len := fun h => k80.K_len h
  K_one := fun h => k80.K_one h
  K_below := fun _ h => h
  K_of_M := fun h => h
  M_mono := fun _ h => h
  M_bound := fun h => h
  M_move := fun _ h => h
  M_lower := fun _ h => h
namespace Rf
theorem C_in {W w : World} {A : Option Addr} {n : Nat} {l : List S80} (h : Kd.C k80 W A n l) (hb : Below W.heap.size W w) : Kd.C (kE W) w A n l := ReadsRow.imp_ h hb (fun _ _ hp => hp)
theorem C_out {W w : World} {A : Option Addr} {n : Nat} {l : List S80} (h : Kd.C (kE W) w A n l) (hb : Below W.heap.size W w) : Kd.C k80 w A n l := ReadsRow.imp_ (R := (kE W).K w) h (Below.refl _ _) (fun _ _ hp => k80.K_below hb hp)
theorem R_S {W w : World} {e base : Nat} {ok : Nat → Prop} {v : Value} {l : List S80} (h : Kd.R (kE W) e w base ok v l) : Kd.S (kE W) e w base ok v l := by
  obtain ⟨h0, inner, ho, hr⟩ := h
  refine ⟨fun _ => 0, h0, inner, by rw [List.length_zipIdx]; exact ho, by rw [List.length_zipIdx]; exact hr.1, fun j p hj => ?_⟩
  rw [List.getElem?_zipIdx, Nat.zero_add] at hj
  obtain ⟨q, hq, rfl⟩ := Option.map_eq_some_iff.1 hj
  exact hr.2 j q hq
/-- The reference's cells: those of the arguments, or an array of its own. -/
def V (W w : World) (ok : Nat → Prop) (v : Value) (l : List S80) : Prop := (∃ A c, v = .slice A l.length c ∧ l.length ≤ c ∧ Kd.C k80 W A l.length l) ∨ Kd.R (kE W) 80 w W.heap.size ok v l
theorem V_slice {W w : World} {ok : Nat → Prop} {v : Value} {l : List S80} (h : V W w ok v l) : ∃ A c, v = .slice A l.length c := h.elim (fun ⟨A, c, e, _⟩ => ⟨A, c, e⟩) (fun h => Kd.R_slice h)
theorem V_reads {W w : World} {ok : Nat → Prop} {A : Option Addr} {n c : Nat} {l : List S80} (h : V W w ok (.slice A n c) l) (hb : Below W.heap.size W w) : n = l.length ∧ n ≤ c ∧ Kd.C (kE W) w A l.length l := by
  rcases h with ⟨A', c', e, hc, hr⟩ | h
  · injection e with e1 e2 e3
    subst e1 e2 e3
    exact ⟨rfl, hc, C_in hr hb⟩
  · exact Kd.R_reads' h
theorem V_step {W w w' : World} {ok : Nat → Prop} {v : Value} {l : List S80} (h : V W w ok v l) (hm : ∀ k, ok k → k < w.heap.size → w'.heap[k]? = w.heap[k]?) : V W w' ok v l := h.imp id (fun h => Kd.R_step h hm)
theorem V_below {W w w' : World} {ok : Nat → Prop} {v : Value} {l : List S80} (h : V W w ok v l) (hb : Below w.heap.size w w') : V W w' ok v l := V_step h (fun k _ hk => hb.block k hk)
theorem at_E {W w : World} {A : Option Addr} {n : Nat} {l : List S80} (h : Kd.C (kE W) w A n l) (i : Int) (h0 : 0 ≤ i) (h1 : i < n) : ∃ ad A1 c1 A2 c2, A = some ad ∧ w.cell? (ad.add (i.toNat * 5)) = some (.bool (rd_T80 l i).f0.f0) ∧ w.cell? ⟨(ad.add (i.toNat * 5)).block, (ad.add (i.toNat * 5)).off + 1, none⟩ = some (.slice A1 (rd_T80 l i).f0.f1.length c1) ∧ w.cell? ⟨(ad.add (i.toNat * 5)).block, (ad.add (i.toNat * 5)).off + 2, none⟩ = some (.slice A2 (rd_T80 l i).f0.f2.length c2) ∧ w.cell? ⟨(ad.add (i.toNat * 5)).block, (ad.add (i.toNat * 5)).off + 3, none⟩ = some (.int .u64 (rd_T80 l i).f1) ∧ w.cell? ⟨(ad.add (i.toNat * 5)).block, (ad.add (i.toNat * 5)).off + 4, none⟩ = some (.int .i64 (rd_T80 l i).f2) ∧ k80.K W (rd_T80 l i) [.bool (rd_T80 l i).f0.f0, .slice A1 (rd_T80 l i).f0.f1.length c1, .slice A2 (rd_T80 l i).f0.f2.length c2, .int .u64 (rd_T80 l i).f1, .int .i64 (rd_T80 l i).f2] := by
  obtain ⟨ad, cs, e, _, hK, hc0⟩ := Kd.C_get h z80 i h0 h1
  have hc : ∀ j u, cs[j]? = some u → w.cell? (ad.add (i.toNat * 5 + j)) = some u := hc0
  obtain ⟨A1, c1, A2, c2, rfl, l1, g1, l2, g2⟩ := k80_open hK
  exact ⟨ad, A1, c1, A2, c2, e, hc 0 _ rfl, by rw [← add_field _ _ 1 (by omega)]; exact hc 1 _ rfl, by rw [← add_field _ _ 2 (by omega)]; exact hc 2 _ rfl, by rw [← add_field _ _ 3 (by omega)]; exact hc 3 _ rfl, by rw [← add_field _ _ 4 (by omega)]; exact hc 4 _ rfl, hK⟩
end Rf
end Go.Proofs.Ytmhikecbajkonaa.Q
namespace Go.Proofs.Ytmhikecbajkonaa.Q
open Go.RowKit Go.Proofs.YtmhikecbajkonaaW.PrintWords Go.Proofs.YtmhikecbajkonaaW.PrintLast Go.Proofs.YtmhikecbajkonaaW.PrintMore
set_option linter.unusedVariables false
set_option linter.unusedSimpArgs false
namespace St
def sw (x : S80) : Prop := x.f0.f1.length ≤ 9 ∧ x.f0.f2.length ≤ 9
theorem wsucc {i : Nat} (h : i ≤ 1000000) : wrap64 ((i : Int) + 1) = ((i + 1 : Nat) : Int) := by
  rw [w64o (by omega) (by omega)]; rfl
theorem rd43 {l : List S80} {i : Nat} (h : i < l.length) : rd_T80 l (i : Int) = l[i] := by
  unfold rd_T80
  rw [List.getD_eq_getElem?_getD, Int.toNat_natCast, List.getElem?_eq_getElem h]; rfl
theorem sw_of {l : List S80} (h : ∀ j, 0 ≤ j → j < l.length → sw (rd_T80 l (j : Int))) : ∀ x ∈ l, sw x := fun x hx => by
  obtain ⟨j, hj, rfl⟩ := List.getElem_of_mem hx
  have := h j (by omega) hj
  rwa [rd43 hj] at this
theorem wide_some {l : List S80} (hl : l.length ≤ 1000000) : ∀ (q i k : Nat), i + q = l.length → q < k → ∃ b, gradineplain_Wide.l0 k l 9 (l.length : Int) (i : Int) = some b ∧ (b = false → ∀ j, i ≤ j → j < l.length → sw (rd_T80 l (j : Int)))
  | 0, i, k + 1, h, hk => ⟨false, by rw [gradineplain_Wide.l0, if_neg (by omega)], fun _ j h1 h2 => by omega⟩
  | q + 1, i, k + 1, h, hk => by
    rw [gradineplain_Wide.l0, if_pos (by omega), if_pos (by omega), if_pos (by omega), wsucc (by omega)]
    obtain ⟨b, hb, hs⟩ := wide_some hl q (i + 1) k (by omega) (by omega)
    rw [hb]
    unfold gradineplain_Long.f
    by_cases c1 : ((rd_T80 l (i : Int)).f0.f1.length : Int) > 9
    · exact ⟨true, by rw [if_pos c1]; rfl, fun h => by cases h⟩
    by_cases c2 : ((rd_T80 l (i : Int)).f0.f2.length : Int) > 9
    · exact ⟨true, by rw [if_neg c1, decide_eq_true c2]; rfl, fun h => by cases h⟩
    refine ⟨b, by rw [if_neg c1, decide_eq_false c2]; rfl, fun hf j h1 h2 => ?_⟩
    by_cases e : j = i
    · subst e; exact ⟨by omega, by omega⟩
    · exact hs hf j (by omega) h2
theorem wide_f {l : List S80} (k : Nat) (hl : l.length ≤ 1000000) (hk : l.length < k) : ∃ b, gradineplain_Wide.f k l 9 = some b ∧ (b = false → ∀ x ∈ l, sw x) := by
  obtain ⟨b, h1, h2⟩ := wide_some hl l.length 0 k (by omega) hk
  exact ⟨b, h1, fun h => sw_of (h2 h)⟩
theorem eta43 (x : S80) : (⟨⟨x.f0.f0, x.f0.f1, x.f0.f2⟩, x.f1, x.f2⟩ : S80) = x := rfl
theorem cdrop {l : List S80} {i : Nat} (h : i < l.length) : rd_T80 l (i : Int) :: l.drop (i + 1) = l.drop i := by rw [rd43 h]; exact List.getElem_cons_drop h
theorem copies_l {l : List S80} (hl : l.length ≤ 1000000) (hs : ∀ x ∈ l, sw x) : ∀ (q i k : Nat) (o : List S80), i + q = l.length → q < k → o.length = i → store_copies.l0 k o l (l.length : Int) (i : Int) = some (o ++ l.drop i)
  | 0, i, k + 1, o, h, hk, ho => by rw [store_copies.l0, if_neg (by omega), List.drop_eq_nil_of_le (by omega), List.append_nil]
  | q + 1, i, k + 1, o, h, hk, ho => by
    have hx : sw (rd_T80 l (i : Int)) := by rw [rd43 (show i < l.length by omega)]; exact hs _ (List.getElem_mem _)
    rw [store_copies.l0, if_pos (by omega), if_pos (by omega), if_pos (by omega), bcopy _ _ _ _ _ (by have := hx.1; omega) (by have := hx.2; omega), wsucc (by omega)]
    refine (if_pos (by omega)).trans ?_
    rw [copies_l hl hs q (i + 1) k _ (by omega) (by omega) (by simp [ho])]
    rw [eta43, List.append_assoc, List.singleton_append, cdrop (by omega)]
theorem copies_f {l : List S80} (k : Nat) (hl : l.length ≤ 1000000) (hs : ∀ x ∈ l, sw x) (hk : l.length < k) : store_copies.f k l = some l := by
  have := copies_l hl hs l.length 0 k [] (by omega) hk rfl
  simpa [store_copies.f] using this
def idx (n : Nat) : List Int := (List.range n).map Int.ofNat
theorem idx_len (n : Nat) : (idx n).length = n := by simp [idx]
theorem idx_succ (n : Nat) : idx (n + 1) = idx n ++ [(n : Int)] := by simp [idx, List.range_succ]
theorem rd_idx {n i : Nat} (h : i < n) : rd (idx n) (i : Int) = (i : Int) := by
  unfold rd; simp [idx, List.getD_eq_getElem?_getD, h]
theorem get_l {V : List S80} (hl : V.length ≤ 1000000) (hs : ∀ x ∈ V, sw x) : ∀ (q i k : Nat) (o : List S80), i + q = V.length → q < k → o.length = i → store_Get.l0 k V (idx V.length) o (i : Int) = some (o ++ V.drop i, 0)
  | 0, i, k + 1, o, h, hk, ho => by rw [store_Get.l0, idx_len, if_neg (by omega), List.drop_eq_nil_of_le (by omega), List.append_nil]
  | q + 1, i, k + 1, o, h, hk, ho => by
    have hx : sw (rd_T80 V (i : Int)) := by rw [rd43 (show i < V.length by omega)]; exact hs _ (List.getElem_mem _)
    rw [store_Get.l0, idx_len, if_pos (by omega), if_pos (by omega), rd_idx (show i < V.length by omega), if_neg (by omega), if_neg (by omega), bcopy _ _ _ _ _ (by have := hx.1; omega) (by have := hx.2; omega), wsucc (by omega)]
    refine (if_pos (by omega)).trans ?_
    rw [get_l hl hs q (i + 1) k _ (by omega) (by omega) (by simp [ho])]
    rw [eta43, List.append_assoc, List.singleton_append, cdrop (by omega)]
theorem get_f {V : List S80} (k : Nat) (hl : V.length ≤ 1000000) (hs : ∀ x ∈ V, sw x) (hk : V.length < k) : store_Get.f k V (idx V.length) = some (V, 0) := by
  have := get_l hl hs V.length 0 k [] (by omega) hk rfl
  simpa [store_Get.f] using this
theorem has_l {l : List Int} (hl : l.length ≤ 1000000) (c : Int) : ∀ (q i k : Nat), i + q = l.length → q < k → ∃ b, gradineref19_Has.l0 k l c (l.length : Int) (i : Int) = some b ∧ (b = false → ∀ j, i ≤ j → j < l.length → rd l (j : Int) ≠ c)
  | 0, i, k + 1, h, hk => ⟨false, by rw [gradineref19_Has.l0, if_neg (by omega)], fun _ j h1 h2 => by omega⟩
  | q + 1, i, k + 1, h, hk => by
    rw [gradineref19_Has.l0, if_pos (by omega), if_pos (by omega), if_pos (by omega), wsucc (by omega)]
    by_cases c1 : rd l (i : Int) = c
    · exact ⟨true, if_pos c1, fun h => by cases h⟩
    obtain ⟨b, hb, hs⟩ := has_l hl c q (i + 1) k (by omega) (by omega)
    refine ⟨b, (if_neg c1).trans hb, fun hf j h1 h2 => ?_⟩
    by_cases e : j = i
    · subst e; exact c1
    · exact hs hf j (by omega) h2
theorem has_f {l : List Int} (k : Nat) (hl : l.length ≤ 1000000) (hk : l.length < k) (c : Int) : ∃ b, gradineref19_Has.f k l c = some b ∧ (b = false → ∀ j, j < l.length → rd l (j : Int) ≠ c) := by
  obtain ⟨b, h1, h2⟩ := has_l hl c l.length 0 k (by omega) hk
  exact ⟨b, h1, fun h j hj => h2 h j (by omega) hj⟩
theorem words_l {l : List Int} (hl : l.length ≤ 1000000) : ∀ (q i k : Nat), i + q = l.length → q < k → gradineref07_Words.l0 k l l (l.length : Int) (i : Int) = some true
  | 0, i, k + 1, h, hk => by rw [gradineref07_Words.l0, if_neg (by omega)]
  | q + 1, i, k + 1, h, hk => by
    rw [gradineref07_Words.l0, if_pos (by omega), if_pos (by omega), if_pos (by omega), if_pos (by omega), if_pos rfl, wsucc (by omega)]
    exact words_l hl q (i + 1) k (by omega) (by omega)
theorem words_f {l : List Int} (h : l.length ≤ 9) : gradineref07_Words.f 12 l l = some true := by
  rw [gradineref07_Words.f, if_pos rfl]
  exact words_l (by omega) l.length 0 12 (by omega) (by omega)
theorem same_f {x : S80} (h : sw x) : gradineref18_Same.f 12 x.f0.f0 x.f0.f1 x.f0.f2 x.f1 x.f2 x.f0.f0 x.f0.f1 x.f0.f2 x.f1 x.f2 = some true := by
  rw [gradineref18_Same.f, if_pos rfl, if_pos rfl, gradineref07_Same.f, if_pos (by simp), words_f h.1, words_f h.2]
  rfl
theorem a1_apart {l1 : List Int} : ∀ {q i : Nat} {s : List Bool}, s.length = 64 → (∀ j, i ≤ j → j < i + q → (rd l1 (j : Int)).toNat < 64) → store_Put.a1 l1 q i s = true → ∀ j, i ≤ j → j < i + q → s.getD (rd l1 (j : Int)).toNat false = false ∧ ∀ m, i ≤ m → m < j → (rd l1 (m : Int)).toNat ≠ (rd l1 (j : Int)).toNat
  | 0, i, s, hs, hr, h, j, h1, h2 => by omega
  | q + 1, i, s, hs, hr, h, j, h1, h2 => by
    rw [store_Put.a1] at h
    split at h
    · cases h
    rename_i hn
    have hn' := Bool.eq_false_iff.mpr hn
    by_cases e : j = i
    · subst e; exact ⟨hn', fun m a b => by omega⟩
    obtain ⟨g1, g2⟩ := a1_apart (by simpa using hs) (fun j a b => hr j (by omega) (by omega)) h j (by omega) (by omega)
    have hv := hr i (by omega) (by omega)
    have hne : (rd l1 (i : Int)).toNat ≠ (rd l1 (j : Int)).toNat := fun e_ => by
      rw [← e_, List.getD_eq_getElem?_getD, List.getElem?_set_self (by omega)] at g1
      simp at g1
    refine ⟨?_, fun m a b => ?_⟩
    · rw [List.getD_eq_getElem?_getD, List.getElem?_set_ne hne, ← List.getD_eq_getElem?_getD] at g1; exact g1
    · by_cases em : m = i
      · subst em; exact hne
      · exact g2 m (by omega) b
theorem a2_len {l1 : List Int} {l2 : List S80} : ∀ (q i : Nat) (V : List S80), (store_Put.a2 l1 l2 q i V).length = V.length
  | 0, i, V => rfl
  | q + 1, i, V => by rw [store_Put.a2, a2_len q (i + 1)]; simp
theorem a2_other {l1 : List Int} {l2 : List S80} (c : Nat) : ∀ (q i : Nat) (V : List S80), (∀ j, i ≤ j → j < i + q → (rd l1 (j : Int)).toNat ≠ c) → (store_Put.a2 l1 l2 q i V)[c]? = V[c]?
  | 0, i, V, h => rfl
  | q + 1, i, V, h => by rw [store_Put.a2, a2_other c q (i + 1) _ (fun j a b => h j (by omega) (by omega)), List.getElem?_set_ne (h i (by omega) (by omega))]
theorem a2_put {l1 : List Int} {l2 : List S80} : ∀ (q i : Nat) (V : List S80), (∀ j, i ≤ j → j < i + q → ∀ m, i ≤ m → m < j → (rd l1 (m : Int)).toNat ≠ (rd l1 (j : Int)).toNat) → ∀ j, i ≤ j → j < i + q → (rd l1 (j : Int)).toNat < V.length → (store_Put.a2 l1 l2 q i V)[(rd l1 (j : Int)).toNat]? = some (rd_T80 l2 (j : Int))
  | 0, i, V, h, j, h1, h2, hv => by omega
  | q + 1, i, V, h, j, h1, h2, hv => by
    rw [store_Put.a2]
    by_cases e : j = i
    · subst e
      rw [a2_other _ q (j + 1) _ (fun m a b => (h m (by omega) (by omega) j (by omega) (by omega)).symm), List.getElem?_set_self hv]
    · exact a2_put q (i + 1) _ (fun j a b m c d => h j (by omega) (by omega) m (by omega) d) j (by omega) (by omega) (by simpa using hv)
theorem a2_all {l1 : List Int} {l2 : List S80} {p : S80 → Prop} (h2 : ∀ j, j < l2.length → p (rd_T80 l2 (j : Int))) : ∀ (q i : Nat) (V : List S80), i + q ≤ l2.length → (∀ x ∈ V, p x) → ∀ x ∈ store_Put.a2 l1 l2 q i V, p x
  | 0, i, V, h, hV, x, hx => hV x hx
  | q + 1, i, V, h, hV, x, hx => by
    rw [store_Put.a2] at hx
    exact a2_all h2 q (i + 1) _ (by omega) (fun y hy => (List.mem_or_eq_of_mem_set hy).elim (hV y) (fun e => e ▸ h2 i (by omega))) x hx
/-- What Put leaves. -/
theorem put_f {V : List S80} {l1 : List Int} {l2 : List S80} (h64 : V.length ≤ 64) (hV : ∀ x ∈ V, sw x) (h2 : ∀ x ∈ l2, sw x) : ∃ (E : Int) (U : List S80), store_Put.f V l1 l2 = (E, U) ∧ U.length = V.length ∧ (∀ x ∈ U, sw x) ∧ (E ≠ 0 → U = V) ∧
    (E = 0 → l1.length = l2.length ∧ (∀ j, j < l1.length → 0 ≤ rd l1 (j : Int) ∧ rd l1 (j : Int) < (V.length : Int) ∧ rd_T80 U (rd l1 (j : Int)) = rd_T80 l2 (j : Int)) ∧ ∀ i, i < V.length → (∀ j, j < l1.length → rd l1 (j : Int) ≠ (i : Int)) → rd_T80 U (i : Int) = rd_T80 V (i : Int)) := by
  rw [store_Put.f]
  by_cases hl : l1.length = l2.length
  rotate_left
  · rw [if_neg hl]; exact ⟨1, V, rfl, rfl, hV, fun _ => rfl, fun h => by cases h⟩
  rw [if_pos hl]
  by_cases h0 : store_Put.a0 V.length l1 l1.length 0 = true
  rotate_left
  · rw [if_neg h0]; exact ⟨11, V, rfl, rfl, hV, fun _ => rfl, fun h => by cases h⟩
  rw [if_pos h0]
  by_cases h1 : store_Put.a1 l1 l1.length 0 bfs = true
  rotate_left
  · rw [if_neg h1]; exact ⟨16, V, rfl, rfl, hV, fun _ => rfl, fun h => by cases h⟩
  rw [if_pos h1]
  have hr := fun j (a : j < l1.length) => store_Put.a0_all h0 j (Nat.zero_le _) (by omega)
  have hd := a1_apart (by simp [bfs]) (fun j _ b => by have := hr j (by omega); omega) h1
  refine ⟨0, _, rfl, a2_len _ _ _, a2_all (fun j hj => by rw [rd43 hj]; exact h2 _ (List.getElem_mem _)) _ _ _ (by omega) hV, fun h => absurd rfl h, fun _ => ⟨hl, fun j hj => ?_, fun i hi hn => ?_⟩⟩
  · refine ⟨(hr j hj).1, (hr j hj).2, ?_⟩
    show List.getD _ _ _ = _
    rw [List.getD_eq_getElem?_getD, a2_put _ _ _ (fun j _ b => (hd j (by omega) b).2) j (by omega) (by omega) (by have := hr j hj; omega)]
    rfl
  · show List.getD _ _ _ = List.getD _ _ _
    rw [List.getD_eq_getElem?_getD, List.getD_eq_getElem?_getD, Int.toNat_natCast, a2_other i _ _ _ (fun j _ b e => hn j (by omega) (by have := hr j (by omega); omega))]
end St
end Go.Proofs.Ytmhikecbajkonaa.Q
namespace Go.Proofs.Ytmhikecbajkonaa.Q
open Go.RowKit Go.Proofs.YtmhikecbajkonaaW.PrintWords Go.Proofs.YtmhikecbajkonaaW.PrintLast Go.Proofs.YtmhikecbajkonaaW.PrintMore
attribute [local go_sem] max2_int min2_int max_two min_two max_three min_three max_four min_four
set_option linter.unusedVariables false
set_option linter.unusedSimpArgs false
namespace Rf
/-- The reference's Get. -/
def get.g (V : List S80) (l1 : List Int) : Nat → Nat → List S80 → List S80 × Int
 | 0, _, o => (o, 0)
 | q + 1, i, o => if rd l1 (i : Int) < 0 then ([], 11) else if (V.length : Int) ≤ rd l1 (i : Int) then ([], 11) else get.g V l1 q (i + 1) (o ++ [rd_T80 V (rd l1 (i : Int))])
theorem pS {P : Program} {ops : Array Oper} {Q : Exit → Act → World → Prop} {md : Region.Mode} {S : World → Prop} {ds : List Nat} {T : Bool × List (List Nat × List Nat)} {i : Nat} {N : Option Tmp} {oi : Oper} {fuel : Nat} {l : Array Bool} {a a' : Act} {w : World} (l' : Array Bool) (hi : ops[i]? = some oi) (hN : oi.dst = N) (hT : rtab md ops = T) (h : wpAnyLast P md ops Q S ds fuel l' a' w) (hc : anyT T l.toList l'.toList i = true := by kernel_rfl) (hQ : ∀ c a w, Q (.panic c) (a.put oi.dst undef) w → Q (.panic c) a w := by exact fun _ _ _ h => h)
  (hy : Region.wanted oi (yielded ops a.tmps) = false := by rfl) (ha : a.put N undef = a' := by simp only [Act.put, List.setIfInBounds_toArray, List.set_cons_zero, List.set_cons_succ, i64_w, i32_w]; rfl) : wpAnyLast P md ops Q S ds (fuel + 1) l a w := pure_ l' hi hN (any_of hT hc) hQ (Or.inr ⟨hy, rfl⟩) ha h
theorem kEM {W w : World} {base : Nat} {ok : Nat → Prop} {x : S80} {cs : List Value} (h : k80.K W x cs) : (kE W).M w base ok x cs := h
def rg.T5 : Bool × List (List Nat × List Nat) := (true, [([], []), ([], []), ([0, 1], [0, 1]), ([2], [2]), ([3], [3]), ([4], [4]), ([5], [5]), ([5], [5]), ([6, 7, 5], [5, 6, 7]), ([8, 5], [5, 8]), ([5], [5]), ([10, 5], [5, 10]), ([11, 5], [5, 11]), ([12, 5], [5, 12]), ([13, 5], [5, 13]), ([9, 14, 5], [5, 9, 14]), ([5, 15], [5, 15])])
def rg.B5 : List Nat := [0, 0, 3, 7, 15, 31, 63, 63, 255, 511, 63, 1087, 3135, 7231, 15423, 32767, 65535]
theorem rg.tab5 : rtab .any (opsOf Try.f39 5) = rg.T5 := by kernel_rfl
theorem rg.bits5 : waitsOk rg.T5.2 rg.B5 = true := by kernel_rfl
def rg.T7 : Bool × List (List Nat × List Nat) := (true, [([], []), ([], []), ([1], [1]), ([2], [2]), ([3], [3]), ([], []), ([], []), ([5, 6], [5, 6]), ([7], [7]), ([4, 8], [4, 8]), ([9], [9]), ([10], [10]), ([0, 11], [0, 11]), ([12, 12, 0, 1, 2, 3, 4, 5, 6, 7, 8, 9, 10, 11, 12], [0, 12])])
def rg.B7 : List Nat := [0, 0, 2, 6, 14, 0, 0, 96, 224, 510, 1022, 2046, 4095, 8191]
theorem rg.tab7 : rtab .any (opsOf Try.f39 7) = rg.T7 := by kernel_rfl
theorem rg.bits7 : waitsOk rg.T7.2 rg.B7 = true := by kernel_rfl
set_option maxHeartbeats 8000000 in
set_option maxRecDepth 100000 in
theorem get.calls (gr : Nat) (A : Option Addr) (c : Nat) (V : List S80) (ver : Int) (A1 : Option Addr) (c1 : Nat) (l1 : List Int) (r1 : List S80) (r2 : Int) (W w : World) (hst : w.heap[gr]? = some (.cells #[.slice A V.length c, .int .i64 ver] 38 (0, 0))) (hV : Kd.C (kE W) w A V.length V) (hr1 : Kd.C (Kd.int .i64) w A1 l1.length l1) (hn : l1.length ≤ 1000000) (h : get.g V l1 l1.length 0 [] = (r1, r2)) :
  Calls Try.prog 39 #[.pointer (some ⟨gr, 0, none⟩), .slice A1 l1.length c1] w fun e w' => ∃ v0 : Value, e = .returned (.tuple #[v0, .int .i64 r2]) ∧ Kd.R (kE W) 80 w' w.heap.size (fun _ => True) v0 r1 ∧ Below w.heap.size w w' := by
 have hu80 := Try.underlying80
 have HS := aM hst
 have HV := aM hV
 have HR1 := aM hr1
 have HN := aM hn
 have H0 := aM h
 clear hst hV hr1 hn h
 have HB := aM (Below.refl w.heap.size w)
 go_enter Try.func39, Try.ntmps39
 go_wp2
 go_loopg [6, 10] l1.length (fun kq v6 v10 w' => ∃ (i : Nat) (o : List S80), v10 = .int .i64 (i : Int) ∧ Aside0 (i + kq = l1.length) ∧ Aside0 (get.g V l1 kq i o = (r1, r2)) ∧ Aside0 (o.length = i) ∧ Aside0 (Kd.R (kE W) 80 w' w.heap.size (fun _ => True) v6 o) ∧ Aside0 (Below w.heap.size w w'))
 case atStart => exact ⟨0, [], rfl, ⟨by omega⟩, H0, ⟨rfl⟩, ⟨Kd.R_nil _ _ _ _ _⟩, ⟨qB HB⟩⟩
 case round =>
  clear H0 HB
  obtain ⟨i, o, rfl, HK, HA, HL, HO, HB⟩ := hrel
  cases gk with
  | succ kq =>
   have H := HA.out
   clear HA
   rw [get.g] at H
   have d1 : decide ((i : Int) < (l1.length : Int)) = true := decide_eq_true (by have := HK.out; omega)
   have d2 : decide (i < l1.length) = true := decide_eq_true (by have := HK.out; omega)
   have p1 : (0 ≤ (i : Int)) = True := eq_true (by omega)
   have q1 : ((i : Int) < (l1.length : Int)) = True := eq_true (by have := HK.out; omega)
   have q2 : (i < l1.length) = True := eq_true (by have := HK.out; omega)
   obtain ⟨ad, ead, hx⟩ := Kd.at_int HR1.out (i : Int) (by omega) (by have := HK.out; omega)
   cases ead
   rw [Int.toNat_natCast] at hx
   have QX := aM hx
   have QS := aM ((blk_cell HS.out 0).trans rfl : w.cell? ⟨gr, 0, none⟩ = some (.slice A V.length c))
   clear hx
   by_cases c1_ : rd l1 (i : Int) < 0
   ·rw [if_pos c1_] at H
    have e1 : decide (rd l1 (i : Int) < 0) = true := decide_eq_true c1_
    obtain ⟨rfl, rfl⟩ := Prod.mk.inj H
    go_wp2
    replace HB := aM (below_drew1 HB.out)
    replace HO := aM (Kd.R_drew HO.out)
    have mv : ∀ {a : Addr} {v : Value}, w.cell? a = some v → wr.drew.cell? a = some v := fun h_ => (HB.out.cell (World.block_lt_of_cell? w _ h_)).trans h_
    refine start_ (n := 17) (S := fun w' => w'.cell? (ad.add i) = some (.int .i64 (rd l1 (i : Int))) ∧ w'.cell? ⟨gr, 0, none⟩ = some (.slice A V.length c)) (ds := []) (bm 17 0) (by kernel_rfl) rfl rfl ⟨mv QX.out, mv QS.out⟩ (fun hHeld => ?_); refine with_tabW rg.tab5 rg.bits5 (fun HT_ HW_ => ?_)
    clear mv
    generalize wr.drew = wd at HB HO hHeld ⊢
    refine pP (i := 0) (N := some 13) (bm 17 1) rfl rfl HT_.out ?_
    refine pP (i := 1) (N := some 14) (bm 17 3) rfl rfl HT_.out ?_
    refine pP (i := 2) (N := some 15) (bm 17 7) rfl rfl HT_.out ?_
    refine pT (i := 3) (N := some 16) (bm 17 15) rfl rfl HT_.out HW_.out hHeld (by rintro w' ⟨s0, s1⟩; go_simp; with_reducible rfl) ?_
    refine pP (i := 4) (N := some 17) (bm 17 31) rfl rfl HT_.out ?_
    refine pP (i := 5) (N := some 18) (bm 17 63) rfl rfl HT_.out ?_
    refine pS (i := 6) (N := some 19) (bm 17 127) rfl rfl HT_.out ?_
    refine pS (i := 7) (N := some 20) (bm 17 255) rfl rfl HT_.out ?_
    refine pS (i := 8) (N := some 21) (bm 17 511) rfl rfl HT_.out ?_
    refine pS (i := 9) (N := some 22) (bm 17 1023) rfl rfl HT_.out ?_
    refine pS (i := 10) (N := some 23) (bm 17 2047) rfl rfl HT_.out ?_
    refine pS (i := 11) (N := some 24) (bm 17 4095) rfl rfl HT_.out ?_
    refine pS (i := 12) (N := some 25) (bm 17 8191) rfl rfl HT_.out ?_
    refine pS (i := 13) (N := some 26) (bm 17 16383) rfl rfl HT_.out ?_
    refine pS (i := 14) (N := some 27) (bm 17 32767) rfl rfl HT_.out ?_
    refine pS (i := 15) (N := some 28) (bm 17 65535) rfl rfl HT_.out ?_
    refine pP (i := 16) (N := some 29) (bm 17 131071) rfl rfl HT_.out ?_
    refine done_ (done_of HT_.out (by kernel_rfl)) ?_
    clear hHeld HT_ HW_
    go_wp2
    go_ret2
    exact ⟨_, pE, Kd.R_nil _ _ _ _ _, qB HB⟩
   rw [if_neg c1_] at H
   have e1 : decide (rd l1 (i : Int) < 0) = false := decide_eq_false c1_
   by_cases c2_ : (V.length : Int) ≤ rd l1 (i : Int)
   ·rw [if_pos c2_] at H
    have e2 : decide (rd l1 (i : Int) ≥ (V.length : Int)) = true := decide_eq_true c2_
    have e3 : decide ((V.length : Int) ≤ rd l1 (i : Int)) = true := decide_eq_true c2_
    obtain ⟨rfl, rfl⟩ := Prod.mk.inj H
    go_wp2
    replace HB := aM (below_drew1 HB.out)
    replace HO := aM (Kd.R_drew HO.out)
    have mv : ∀ {a : Addr} {v : Value}, w.cell? a = some v → wr.drew.cell? a = some v := fun h_ => (HB.out.cell (World.block_lt_of_cell? w _ h_)).trans h_
    refine start_ (n := 17) (S := fun w' => w'.cell? (ad.add i) = some (.int .i64 (rd l1 (i : Int))) ∧ w'.cell? ⟨gr, 0, none⟩ = some (.slice A V.length c)) (ds := []) (bm 17 0) (by kernel_rfl) rfl rfl ⟨mv QX.out, mv QS.out⟩ (fun hHeld => ?_); refine with_tabW rg.tab5 rg.bits5 (fun HT_ HW_ => ?_)
    clear mv
    generalize wr.drew = wd at HB HO hHeld ⊢
    refine pP (i := 0) (N := some 13) (bm 17 1) rfl rfl HT_.out ?_
    refine pP (i := 1) (N := some 14) (bm 17 3) rfl rfl HT_.out ?_
    refine pP (i := 2) (N := some 15) (bm 17 7) rfl rfl HT_.out ?_
    refine pT (i := 3) (N := some 16) (bm 17 15) rfl rfl HT_.out HW_.out hHeld (by rintro w' ⟨s0, s1⟩; go_simp; with_reducible rfl) ?_
    refine pP (i := 4) (N := some 17) (bm 17 31) rfl rfl HT_.out ?_
    refine pP (i := 5) (N := some 18) (bm 17 63) rfl rfl HT_.out ?_
    refine pP (i := 6) (N := some 19) (bm 17 127) rfl rfl HT_.out ?_
    refine pP (i := 7) (N := some 20) (bm 17 255) rfl rfl HT_.out ?_
    refine pP (i := 8) (N := some 21) (bm 17 511) rfl rfl HT_.out ?_
    refine pP (i := 10) (N := some 23) (bm 17 1535) rfl rfl HT_.out ?_
    refine pP (i := 11) (N := some 24) (bm 17 3583) rfl rfl HT_.out ?_
    refine pP (i := 12) (N := some 25) (bm 17 7679) rfl rfl HT_.out ?_
    refine pT (i := 9) (N := some 22) (bm 17 8191) rfl rfl HT_.out HW_.out hHeld (by rintro w' ⟨s0, s1⟩; go_simp; with_reducible rfl) ?_
    refine pT (i := 13) (N := some 26) (bm 17 16383) rfl rfl HT_.out HW_.out hHeld (by rintro w' ⟨s0, s1⟩; go_simp; with_reducible rfl) ?_
    refine pP (i := 14) (N := some 27) (bm 17 32767) rfl rfl HT_.out ?_
    refine pP (i := 15) (N := some 28) (bm 17 65535) rfl rfl HT_.out ?_
    refine pP (i := 16) (N := some 29) (bm 17 131071) rfl rfl HT_.out ?_
    refine done_ (done_of HT_.out (by kernel_rfl)) ?_
    clear hHeld HT_ HW_
    go_wp2
    go_ret2
    exact ⟨_, pE, Kd.R_nil _ _ _ _ _, qB HB⟩
   rw [if_neg c2_] at H
   have e2 : decide (rd l1 (i : Int) ≥ (V.length : Int)) = false := decide_eq_false c2_
   have e3 : decide ((V.length : Int) ≤ rd l1 (i : Int)) = false := decide_eq_false c2_
   have H1 := aM H
   clear H
   go_wp2
   replace HB := aM (below_drew1 HB.out)
   replace HO := aM (Kd.R_drew HO.out)
   have mv : ∀ {a : Addr} {v : Value}, w.cell? a = some v → wr.drew.cell? a = some v := fun h_ => (HB.out.cell (World.block_lt_of_cell? w _ h_)).trans h_
   refine start_ (n := 17) (S := fun w' => w'.cell? (ad.add i) = some (.int .i64 (rd l1 (i : Int))) ∧ w'.cell? ⟨gr, 0, none⟩ = some (.slice A V.length c)) (ds := []) (bm 17 0) (by kernel_rfl) rfl rfl ⟨mv QX.out, mv QS.out⟩ (fun hHeld => ?_); refine with_tabW rg.tab5 rg.bits5 (fun HT_ HW_ => ?_)
   clear mv
   generalize wr.drew = wd at HB HO hHeld ⊢
   refine pP (i := 0) (N := some 13) (bm 17 1) rfl rfl HT_.out ?_
   refine pP (i := 1) (N := some 14) (bm 17 3) rfl rfl HT_.out ?_
   refine pP (i := 2) (N := some 15) (bm 17 7) rfl rfl HT_.out ?_
   refine pT (i := 3) (N := some 16) (bm 17 15) rfl rfl HT_.out HW_.out hHeld (by rintro w' ⟨s0, s1⟩; go_simp; with_reducible rfl) ?_
   refine pP (i := 4) (N := some 17) (bm 17 31) rfl rfl HT_.out ?_
   refine pP (i := 5) (N := some 18) (bm 17 63) rfl rfl HT_.out ?_
   refine pP (i := 6) (N := some 19) (bm 17 127) rfl rfl HT_.out ?_
   refine pP (i := 7) (N := some 20) (bm 17 255) rfl rfl HT_.out ?_
   refine pP (i := 8) (N := some 21) (bm 17 511) rfl rfl HT_.out ?_
   refine pP (i := 10) (N := some 23) (bm 17 1535) rfl rfl HT_.out ?_
   refine pP (i := 11) (N := some 24) (bm 17 3583) rfl rfl HT_.out ?_
   refine pP (i := 12) (N := some 25) (bm 17 7679) rfl rfl HT_.out ?_
   refine pT (i := 9) (N := some 22) (bm 17 8191) rfl rfl HT_.out HW_.out hHeld (by rintro w' ⟨s0, s1⟩; go_simp; with_reducible rfl) ?_
   refine pT (i := 13) (N := some 26) (bm 17 16383) rfl rfl HT_.out HW_.out hHeld (by rintro w' ⟨s0, s1⟩; go_simp; with_reducible rfl) ?_
   refine pP (i := 14) (N := some 27) (bm 17 32767) rfl rfl HT_.out ?_
   refine pP (i := 15) (N := some 28) (bm 17 65535) rfl rfl HT_.out ?_
   refine pP (i := 16) (N := some 29) (bm 17 131071) rfl rfl HT_.out ?_
   refine done_ (done_of HT_.out (by kernel_rfl)) ?_
   clear hHeld HT_ HW_
   obtain ⟨ad2, B1, b1, B2, b2, ead2, hy0, hy1, hy2, hy3, hy4, hyK⟩ := at_E HV.out (rd l1 (i : Int)) (by omega) (by omega)
   cases ead2
   have HY := aM (And.intro hy0 (And.intro hy1 (And.intro hy2 (And.intro hy3 hy4))))
   have HYK := aM hyK
   clear hy0 hy1 hy2 hy3 hy4 hyK
   have q3 : (0 ≤ rd l1 (i : Int)) = True := eq_true (by omega)
   have q4 : (rd l1 (i : Int) < (V.length : Int)) = True := eq_true (by omega)
   clear c1_ c2_ e1 e2 e3
   go_wp2
   replace HB := aM (below_drew1 HB.out)
   replace HO := aM (Kd.R_drew HO.out)
   have mv : ∀ {a : Addr} {v : Value}, w.cell? a = some v → wd.drew.cell? a = some v := fun h_ => (HB.out.cell (World.block_lt_of_cell? w _ h_)).trans h_
   refine start_ (n := 14) (S := fun w' => w'.cell? (ad.add i) = some (.int .i64 (rd l1 (i : Int))) ∧ w'.cell? ⟨gr, 0, none⟩ = some (.slice (some ad2) V.length c) ∧ w'.cell? (ad2.add ((rd l1 (i : Int)).toNat * 5)) = some (.bool ((rd_T80 V (rd l1 (i : Int))).f0.f0)) ∧ w'.cell? ⟨(ad2.add ((rd l1 (i : Int)).toNat * 5)).block, (ad2.add ((rd l1 (i : Int)).toNat * 5)).off + 1, none⟩ = some (.slice B1 ((rd_T80 V (rd l1 (i : Int))).f0.f1).length b1) ∧ w'.cell? ⟨(ad2.add ((rd l1 (i : Int)).toNat * 5)).block, (ad2.add ((rd l1 (i : Int)).toNat * 5)).off + 2, none⟩ = some (.slice B2 ((rd_T80 V (rd l1 (i : Int))).f0.f2).length b2) ∧ w'.cell? ⟨(ad2.add ((rd l1 (i : Int)).toNat * 5)).block, (ad2.add ((rd l1 (i : Int)).toNat * 5)).off + 3, none⟩ = some (.int .u64 ((rd_T80 V (rd l1 (i : Int))).f1)) ∧ w'.cell? ⟨(ad2.add ((rd l1 (i : Int)).toNat * 5)).block, (ad2.add ((rd l1 (i : Int)).toNat * 5)).off + 4, none⟩ = some (.int .i64 ((rd_T80 V (rd l1 (i : Int))).f2))) (ds := []) (bm 14 0) (by kernel_rfl) rfl rfl ⟨mv QX.out, mv QS.out, mv HY.out.1, mv HY.out.2.1, mv HY.out.2.2.1, mv HY.out.2.2.2.1, mv HY.out.2.2.2.2⟩ (fun hHeld => ?_); refine with_tabW rg.tab7 rg.bits7 (fun HT_ HW_ => ?_)
   clear mv
   generalize wd.drew = we at HB HO hHeld ⊢
   refine pP (i := 0) (N := some 30) (bm 14 1) rfl rfl HT_.out ?_
   refine pP (i := 1) (N := some 31) (bm 14 3) rfl rfl HT_.out ?_
   refine pP (i := 2) (N := some 32) (bm 14 7) rfl rfl HT_.out ?_
   refine pP (i := 3) (N := some 33) (bm 14 15) rfl rfl HT_.out ?_
   refine pP (i := 5) (N := some 35) (bm 14 47) rfl rfl HT_.out ?_
   refine pP (i := 6) (N := some 36) (bm 14 111) rfl rfl HT_.out ?_
   refine pP (i := 7) (N := some 37) (bm 14 239) rfl rfl HT_.out ?_
   refine pT (i := 4) (N := some 34) (bm 14 255) rfl rfl HT_.out HW_.out hHeld (by rintro w' ⟨s0, s1, s2, s3, s4, s5, s6⟩; go_simp; with_reducible rfl) ?_
   refine pT (i := 8) (N := some 38) (bm 14 511) rfl rfl HT_.out HW_.out hHeld (by rintro w' ⟨s0, s1, s2, s3, s4, s5, s6⟩; go_simp; with_reducible rfl) ?_
   refine pP (i := 9) (N := some 39) (bm 14 1023) rfl rfl HT_.out ?_
   refine pT (i := 10) (N := some 40) (bm 14 2047) rfl rfl HT_.out HW_.out hHeld (by rintro w' ⟨s0, s1, s2, s3, s4, s5, s6⟩; go_simp; with_reducible rfl) ?_
   refine one_ (i := 11) (N := some 41) (bm 14 4095) rfl rfl (one_of HT_.out (by kernel_rfl)) (by decide) (fun K hK => ?_)
   refine value_ (w1 := we.alloc (.cells #[.bool ((rd_T80 V (rd l1 (i : Int))).f0.f0), .slice B1 ((rd_T80 V (rd l1 (i : Int))).f0.f1).length b1, .slice B2 ((rd_T80 V (rd l1 (i : Int))).f0.f2).length b2, .int .u64 ((rd_T80 V (rd l1 (i : Int))).f1), .int .i64 ((rd_T80 V (rd l1 (i : Int))).f2)] 80 (0, 0))) (v := .slice (some ⟨we.heap.size, 0, none⟩) 1 1) (by rfl) rfl (by first | (go_simp; done) | (go_simp; rfl)) ?_
   have HBa := aM (below_alloc HB.out (.cells #[.bool ((rd_T80 V (rd l1 (i : Int))).f0.f0), .slice B1 ((rd_T80 V (rd l1 (i : Int))).f0.f1).length b1, .slice B2 ((rd_T80 V (rd l1 (i : Int))).f0.f2).length b2, .int .u64 ((rd_T80 V (rd l1 (i : Int))).f1), .int .i64 ((rd_T80 V (rd l1 (i : Int))).f2)] 80 (0, 0)))
   have mv : ∀ {a : Addr} {v : Value}, w.cell? a = some v → (we.alloc (.cells #[.bool ((rd_T80 V (rd l1 (i : Int))).f0.f0), .slice B1 ((rd_T80 V (rd l1 (i : Int))).f0.f1).length b1, .slice B2 ((rd_T80 V (rd l1 (i : Int))).f0.f2).length b2, .int .u64 ((rd_T80 V (rd l1 (i : Int))).f1), .int .i64 ((rd_T80 V (rd l1 (i : Int))).f2)] 80 (0, 0))).cell? a = some v := fun h_ => (HBa.out.cell (World.block_lt_of_cell? w _ h_)).trans h_
   refine hK.out _ _ ⟨mv QX.out, mv QS.out, mv HY.out.1, mv HY.out.2.1, mv HY.out.2.2.1, mv HY.out.2.2.2.1, mv HY.out.2.2.2.2⟩ (fun hHeld => ?_)
   clear hK K
   refine norm_ (a' := ?_) ?_ ?_
   rotate_left
   ·show Act.put _ (some 41) _ = _
    simp only [Act.put, sP, i64_w, i32_w]
    rfl
   refine one_ (i := 12) (N := some 42) (bm 14 8191) rfl rfl (one_of HT_.out (by kernel_rfl)) (by decide) (fun K hK => ?_)
   refine Kd.R_append_step (kE W) (w0 := w) w.heap.size (by rfl) (.tmp 30) (.tmp 41) 23 80 (.agg #[(.bool false), (.slice none 0 0), (.slice none 0 0), (.int .u64 0), (.int .i64 0)]) 72 rfl Try.underlying23 info80 rfl (by show 0 < 5; decide) (by omega) u6 o (rd_T80 V (rd l1 (i : Int))) [.bool ((rd_T80 V (rd l1 (i : Int))).f0.f0), .slice B1 ((rd_T80 V (rd l1 (i : Int))).f0.f1).length b1, .slice B2 ((rd_T80 V (rd l1 (i : Int))).f0.f2).length b2, .int .u64 ((rd_T80 V (rd l1 (i : Int))).f1), .int .i64 ((rd_T80 V (rd l1 (i : Int))).f2)] (fun _ => True) (fun _ => False) rfl rfl (kEM HYK.out) (fun _ h_ => h_.elim) (fun _ _ => trivial) HO.out HB.out (below_size HB.out) (by have := HL.out; have := HK.out; have := HN.out; omega) ?_
   intro v1 w1 ho hb _ _
   replace HB := aM hb
   have HO1 := aM ho
   clear ho hb HBa
   have mv : ∀ {a : Addr} {v : Value}, w.cell? a = some v → w1.cell? a = some v := fun h_ => (HB.out.cell (World.block_lt_of_cell? w _ h_)).trans h_
   refine hK.out _ _ ⟨mv QX.out, mv QS.out, mv HY.out.1, mv HY.out.2.1, mv HY.out.2.2.1, mv HY.out.2.2.2.1, mv HY.out.2.2.2.2⟩ (fun hHeld => ?_)
   clear hK K
   refine norm_ (a' := ?_) ?_ ?_
   rotate_left
   ·show Act.put _ (some 42) _ = _
    simp only [Act.put, sP, i64_w, i32_w]
    rfl
   refine pP (i := 13) (N := some 6) (bm 14 16383) rfl rfl HT_.out ?_
   refine done_ (done_of HT_.out (by kernel_rfl)) ?_
   clear hHeld HT_ HW_
   try go_wp2
   go_roundg kq
   case measure => omega
   case rel => exact ⟨i + 1, _, by first | rfl | (rw [w64o (by have := HK.out; have := HN.out; omega) (by have := HK.out; have := HN.out; omega)]; rfl), ⟨by have := HK.out; omega⟩, H1, ⟨by have := HL.out; simp; omega⟩, ⟨pR HO1.out⟩, ⟨qB HB⟩⟩
  | zero =>
   have H := HA.out
   rw [get.g] at H
   obtain ⟨rfl, rfl⟩ := Prod.mk.inj H
   have hin : i = l1.length := by have := HK.out; omega
   clear HA HK
   subst hin
   have d1 : decide ((l1.length : Int) < (l1.length : Int)) = false := decide_eq_false (by omega)
   have d2 : decide (l1.length < l1.length) = false := decide_eq_false (by omega)
   go_wp2
   go_ret2
   exact ⟨_, pE, pR HO.out, qB HB⟩
end Rf
end Go.Proofs.Ytmhikecbajkonaa.Q
namespace Go.Proofs.Ytmhikecbajkonaa.Q
open Go.RowKit Go.Proofs.YtmhikecbajkonaaW.PrintWords Go.Proofs.YtmhikecbajkonaaW.PrintLast Go.Proofs.YtmhikecbajkonaaW.PrintMore
attribute [local go_sem] max2_int min2_int max_two min_two max_three min_three max_four min_four
set_option linter.unusedVariables false
set_option linter.unusedSimpArgs false
namespace Rf
/-- Is none met twice? -/
def put.a1 (l1 : List Int) : Nat → Nat → Bool
 | 0, _ => true
 | q + 1, i => if gradineref19_Has.f 200 (l1.take i) (rd l1 (i : Int)) = some true then false else put.a1 l1 q (i + 1)
def PP (W w : World) (gf : Nat) (A : Option Addr) (c : Nat) (V : List S80) (ver E : Int) (U : List S80) (e : Ending) (w' : World) : Prop := e = .returned (.int .i64 E) ∧ ((E ≠ 0 ∧ U = V ∧ Below w.heap.size w w') ∨
  (E = 0 ∧ ∃ A' c', w'.heap[gf]? = some (.cells #[.slice A' V.length c', .int .i64 (wrap64 (ver + 1))] 38 (0, 0)) ∧ Kd.S (kE W) 80 w' w.heap.size (fun _ => True) (.slice A' V.length c') U ∧ Below W.heap.size W w' ∧ w.heap.size ≤ w'.heap.size ∧ ∀ k, k < w.heap.size → k ≠ gf → w'.heap[k]? = w.heap[k]?))
theorem C_pre {w : World} {A : Option Addr} {n : Nat} {l : List Int} (h : Kd.C (Kd.int .i64) w A n l) (i : Nat) (hi : i ≤ n) : Kd.C (Kd.int .i64) w A (l.take i).length (l.take i) := by
  have hl := h.1
  have hm : (l.take i).length = i := by simp; omega
  refine ⟨rfl, by have := h.2.1; omega, fun hp => ?_⟩
  obtain ⟨ad, e, hc⟩ := h.2.2 (by omega)
  exact ⟨ad, e, fun j p hj => hc j p (by rw [List.getElem?_take] at hj; split at hj; exact hj; cases hj)⟩
theorem has (A : Option Addr) (c : Nat) (l : List Int) (i : Nat) (x : Int) (b : Bool) (w : World) (h : Kd.C (Kd.int .i64) w A l.length l) (hc : l.length ≤ c) (hi : i ≤ l.length) (hf : gradineref19_Has.f 200 (l.take i) x = some b) : Calls Try.prog 36 #[.slice A i c, .int .i64 x] w fun e w' => e = .returned (.bool b) ∧ Below w.heap.size w w' := by
  have hm : (l.take i).length = i := by simp; omega
  have := gradineref19_Has.calls 200 A c (l.take i) x b w (C_pre h i hi) (by omega) hf
  rw [hm] at this
  exact this.mono fun e w' h => ⟨h.1, h.2.below⟩
def rp.T6 : Bool × List (List Nat × List Nat) := (true, [([], []), ([], []), ([0, 1], [0, 1]), ([2], [2]), ([3], [3]), ([4], [4]), ([5], [5]), ([5], [5]), ([6, 7, 5], [5, 6, 7]), ([8, 5], [5, 8]), ([5], [5]), ([10, 5], [5, 10]), ([11, 5], [5, 11]), ([12, 5], [5, 12]), ([13, 5], [5, 13]), ([9, 14, 5], [5, 9, 14]), ([5, 15], [5, 15])])
def rp.B6 : List Nat := [0, 0, 3, 7, 15, 31, 63, 63, 255, 511, 63, 1087, 3135, 7231, 15423, 32767, 65535]
theorem rp.tab6 : rtab .any (opsOf Try.f17 6) = rp.T6 := by kernel_rfl
theorem rp.bits6 : waitsOk rp.T6.2 rp.B6 = true := by kernel_rfl
def rp.T12 : Bool × List (List Nat × List Nat) := (true, [([], []), ([], []), ([0, 1], [0, 1]), ([], []), ([], []), ([3, 4], [3, 4]), ([5], [5]), ([2, 6], [2, 6])])
def rp.B12 : List Nat := [0, 0, 3, 0, 0, 24, 56, 127]
theorem rp.tab12 : rtab .any (opsOf Try.f17 12) = rp.T12 := by kernel_rfl
theorem rp.bits12 : waitsOk rp.T12.2 rp.B12 = true := by kernel_rfl
def rp.T20 : Bool × List (List Nat × List Nat) := (true, [([], []), ([], []), ([], []), ([1, 2], [1, 2]), ([3], [3]), ([], []), ([], []), ([5, 6], [5, 6]), ([7], [7]), ([0, 4, 0, 1, 2, 3, 4, 5, 6, 7, 8], [0, 4]), ([9, 8, 0, 1, 2, 3, 4, 5, 6, 7, 8], [8, 9])])
def rp.B20 : List Nat := [0, 0, 0, 6, 14, 0, 0, 96, 224, 511, 1023]
theorem rp.tab20 : rtab .any (opsOf Try.f17 20) = rp.T20 := by kernel_rfl
theorem rp.bits20 : waitsOk rp.T20.2 rp.B20 = true := by kernel_rfl
set_option maxHeartbeats 16000000 in
set_option maxRecDepth 100000 in
theorem put.calls (gf : Nat) (A : Option Addr) (c : Nat) (V : List S80) (ver : Int) (A1 : Option Addr) (c1 : Nat) (l1 : List Int) (A2 : Option Addr) (c2 : Nat) (l2 : List S80) (R0 R1 : Bool) (RV : List S80) (W w : World) (hst : w.heap[gf]? = some (.cells #[.slice A V.length c, .int .i64 ver] 38 (0, 0))) (hgf : W.heap.size ≤ gf) (hV : Kd.C (kE W) w A V.length V) (hV1 : 1 ≤ V.length) (h64 : V.length ≤ 64) (hB : Below W.heap.size W w) (hr1 : Kd.C (Kd.int .i64) w A1 l1.length l1) (hc1 : l1.length ≤ c1) (hr2 : Kd.C k80 W A2 l2.length l2) (hn : l1.length ≤ 100) (h0 : store_Put.a0 V.length l1 l1.length 0 = R0) (h1 : put.a1 l1 l1.length 0 = R1) (h2 : store_Put.a2 l1 l2 l1.length 0 V = RV) (E : Int) (U : List S80) (hEU : (if l1.length = l2.length then (if R0 = true then (if R1 = true then ((0 : Int), RV) else (16, V)) else (11, V)) else (1, V)) = (E, U)) :
  Calls Try.prog 17 #[.pointer (some ⟨gf, 0, none⟩), .slice A1 l1.length c1, .slice A2 l2.length c2] w (PP W w gf A c V ver E U) := by
 have hu80 := Try.underlying80
 have hu38 := Try.underlying38
 have HS := aM hst
 have HV := aM hV
 have HBW := aM hB
 have HR1 := aM hr1
 have HR2 := aM hr2
 have HC1 := aM hc1
 have HN := aM (show l1.length ≤ 100 ∧ V.length ≤ 64 ∧ 1 ≤ V.length ∧ W.heap.size ≤ gf from ⟨hn, h64, hV1, hgf⟩)
 have A0_ := aM h0
 have A1_ := aM h1
 have A2_ := aM h2
 have EU := aM hEU
 clear hst hV hB hr1 hr2 hc1 hn h64 hV1 hgf h0 h1 h2 hEU
 have HB := aM (Below.refl w.heap.size w)
 by_cases hl : l1.length = l2.length
 rotate_left
 ·have hE := EU.out
  rw [if_neg hl] at hE
  clear EU
  have EU := aM hE
  clear hE
  have b1 : ((l1.length : Int) != (l2.length : Int)) = true := bne_iff_ne.mpr (by omega)
  have b2 : ((l1.length : Int) == (l2.length : Int)) = false := beq_eq_false_iff_ne.mpr (by omega)
  have b3 : (l1.length == l2.length) = false := beq_eq_false_iff_ne.mpr hl
  go_enter Try.func17, Try.ntmps17
  go_wp2
  have hE := EU.out
  cases hE
  go_ret
  exact ⟨pE, Or.inl ⟨by decide, rfl, qB HB⟩⟩
 have hE := EU.out
 rw [if_pos hl] at hE
 clear EU
 have EU := aM hE
 clear hE
 have b1 : ((l1.length : Int) != (l2.length : Int)) = false := bne_eq_false_iff_eq.mpr (by omega)
 have b2 : ((l1.length : Int) == (l2.length : Int)) = true := beq_iff_eq.mpr (by omega)
 have b3 : (l1.length == l2.length) = true := beq_iff_eq.mpr hl
 have HL := aM hl
 clear hl
 go_enter Try.func17, Try.ntmps17
 go_wp2
 clear b1 b2 b3
 go_loopg [18] l1.length (fun kq v18 w' => ∃ (i : Nat), v18 = .int .i64 (i : Int) ∧ Aside0 (i + kq = l1.length) ∧ Aside0 (store_Put.a0 V.length l1 kq i = R0) ∧ Aside0 (Below w.heap.size w w'))
 case atStart => exact ⟨0, rfl, ⟨by omega⟩, A0_, ⟨qB HB⟩⟩
 case round =>
  clear HB
  obtain ⟨i, rfl, HK, HA, HB⟩ := hrel
  cases gk with
  | succ kq =>
   have H := HA.out
   clear HA
   rw [store_Put.a0] at H
   have d1 : decide ((i : Int) < (l1.length : Int)) = true := decide_eq_true (by have := HK.out; omega)
   have d2 : decide (i < l1.length) = true := decide_eq_true (by have := HK.out; omega)
   have p1 : (0 ≤ (i : Int)) = True := eq_true (by omega)
   have q1 : ((i : Int) < (l1.length : Int)) = True := eq_true (by have := HK.out; omega)
   have q2 : (i < l1.length) = True := eq_true (by have := HK.out; omega)
   obtain ⟨ad, ead, hx⟩ := Kd.at_int HR1.out (i : Int) (by omega) (by have := HK.out; omega)
   cases ead
   rw [Int.toNat_natCast] at hx
   have QX := aM hx
   clear hx
   have QS := aM ((blk_cell HS.out 0).trans rfl : w.cell? ⟨gf, 0, none⟩ = some (.slice A V.length c))
   by_cases c1_ : rd l1 (i : Int) < 0
   ·rw [if_pos c1_] at H
    have e1 : decide (rd l1 (i : Int) < 0) = true := decide_eq_true c1_
    subst H
    go_wp2
    replace HB := aM (below_drew1 HB.out)
    have mv : ∀ {a : Addr} {v : Value}, w.cell? a = some v → wr.drew.cell? a = some v := fun h_ => (HB.out.cell (World.block_lt_of_cell? w _ h_)).trans h_
    refine start_ (n := 17) (S := fun w' => w'.cell? (ad.add i) = some (.int .i64 (rd l1 (i : Int))) ∧ w'.cell? ⟨gf, 0, none⟩ = some (.slice A V.length c)) (ds := []) (bm 17 0) (by kernel_rfl) rfl rfl ⟨mv QX.out, mv QS.out⟩ (fun hHeld => ?_); refine with_tabW rp.tab6 rp.bits6 (fun HT_ HW_ => ?_)
    clear mv
    generalize wr.drew = wd at HB hHeld ⊢
    refine pP (i := 0) (N := some 21) (bm 17 1) rfl rfl HT_.out ?_
    refine pP (i := 1) (N := some 22) (bm 17 3) rfl rfl HT_.out ?_
    refine pP (i := 2) (N := some 23) (bm 17 7) rfl rfl HT_.out ?_
    refine pT (i := 3) (N := some 24) (bm 17 15) rfl rfl HT_.out HW_.out hHeld (by rintro w' ⟨s0, s1⟩; go_simp; with_reducible rfl) ?_
    refine pP (i := 4) (N := some 25) (bm 17 31) rfl rfl HT_.out ?_
    refine pP (i := 5) (N := some 26) (bm 17 63) rfl rfl HT_.out ?_
    refine pS (i := 6) (N := some 27) (bm 17 127) rfl rfl HT_.out ?_
    refine pS (i := 7) (N := some 28) (bm 17 255) rfl rfl HT_.out ?_
    refine pS (i := 8) (N := some 29) (bm 17 511) rfl rfl HT_.out ?_
    refine pS (i := 9) (N := some 30) (bm 17 1023) rfl rfl HT_.out ?_
    refine pS (i := 10) (N := some 31) (bm 17 2047) rfl rfl HT_.out ?_
    refine pS (i := 11) (N := some 32) (bm 17 4095) rfl rfl HT_.out ?_
    refine pS (i := 12) (N := some 33) (bm 17 8191) rfl rfl HT_.out ?_
    refine pS (i := 13) (N := some 34) (bm 17 16383) rfl rfl HT_.out ?_
    refine pS (i := 14) (N := some 35) (bm 17 32767) rfl rfl HT_.out ?_
    refine pS (i := 15) (N := some 36) (bm 17 65535) rfl rfl HT_.out ?_
    refine pP (i := 16) (N := some 37) (bm 17 131071) rfl rfl HT_.out ?_
    refine done_ (done_of HT_.out (by kernel_rfl)) ?_
    clear hHeld HT_ HW_
    go_wp2
    go_ret
    have hE := EU.out; simp at hE; obtain ⟨rfl, rfl⟩ := hE; exact ⟨pE, Or.inl ⟨by decide, rfl, qB HB⟩⟩
   rw [if_neg c1_] at H
   have e1 : decide (rd l1 (i : Int) < 0) = false := decide_eq_false c1_
   by_cases c2_ : (V.length : Int) ≤ rd l1 (i : Int)
   ·rw [if_pos c2_] at H
    have e2 : decide (rd l1 (i : Int) ≥ (V.length : Int)) = true := decide_eq_true c2_
    have e3 : decide ((V.length : Int) ≤ rd l1 (i : Int)) = true := decide_eq_true c2_
    subst H
    go_wp2
    replace HB := aM (below_drew1 HB.out)
    have mv : ∀ {a : Addr} {v : Value}, w.cell? a = some v → wr.drew.cell? a = some v := fun h_ => (HB.out.cell (World.block_lt_of_cell? w _ h_)).trans h_
    refine start_ (n := 17) (S := fun w' => w'.cell? (ad.add i) = some (.int .i64 (rd l1 (i : Int))) ∧ w'.cell? ⟨gf, 0, none⟩ = some (.slice A V.length c)) (ds := []) (bm 17 0) (by kernel_rfl) rfl rfl ⟨mv QX.out, mv QS.out⟩ (fun hHeld => ?_); refine with_tabW rp.tab6 rp.bits6 (fun HT_ HW_ => ?_)
    clear mv
    generalize wr.drew = wd at HB hHeld ⊢
    refine pP (i := 0) (N := some 21) (bm 17 1) rfl rfl HT_.out ?_
    refine pP (i := 1) (N := some 22) (bm 17 3) rfl rfl HT_.out ?_
    refine pP (i := 2) (N := some 23) (bm 17 7) rfl rfl HT_.out ?_
    refine pT (i := 3) (N := some 24) (bm 17 15) rfl rfl HT_.out HW_.out hHeld (by rintro w' ⟨s0, s1⟩; go_simp; with_reducible rfl) ?_
    refine pP (i := 4) (N := some 25) (bm 17 31) rfl rfl HT_.out ?_
    refine pP (i := 5) (N := some 26) (bm 17 63) rfl rfl HT_.out ?_
    refine pP (i := 6) (N := some 27) (bm 17 127) rfl rfl HT_.out ?_
    refine pP (i := 7) (N := some 28) (bm 17 255) rfl rfl HT_.out ?_
    refine pP (i := 8) (N := some 29) (bm 17 511) rfl rfl HT_.out ?_
    refine pP (i := 10) (N := some 31) (bm 17 1535) rfl rfl HT_.out ?_
    refine pP (i := 11) (N := some 32) (bm 17 3583) rfl rfl HT_.out ?_
    refine pP (i := 12) (N := some 33) (bm 17 7679) rfl rfl HT_.out ?_
    refine pT (i := 9) (N := some 30) (bm 17 8191) rfl rfl HT_.out HW_.out hHeld (by rintro w' ⟨s0, s1⟩; go_simp; with_reducible rfl) ?_
    refine pT (i := 13) (N := some 34) (bm 17 16383) rfl rfl HT_.out HW_.out hHeld (by rintro w' ⟨s0, s1⟩; go_simp; with_reducible rfl) ?_
    refine pP (i := 14) (N := some 35) (bm 17 32767) rfl rfl HT_.out ?_
    refine pP (i := 15) (N := some 36) (bm 17 65535) rfl rfl HT_.out ?_
    refine pP (i := 16) (N := some 37) (bm 17 131071) rfl rfl HT_.out ?_
    refine done_ (done_of HT_.out (by kernel_rfl)) ?_
    clear hHeld HT_ HW_
    go_wp2
    go_ret
    have hE := EU.out; simp at hE; obtain ⟨rfl, rfl⟩ := hE; exact ⟨pE, Or.inl ⟨by decide, rfl, qB HB⟩⟩
   rw [if_neg c2_] at H
   have e2 : decide (rd l1 (i : Int) ≥ (V.length : Int)) = false := decide_eq_false c2_
   have e3 : decide ((V.length : Int) ≤ rd l1 (i : Int)) = false := decide_eq_false c2_
   have H1 := aM H
   clear H
   go_wp2
   replace HB := aM (below_drew1 HB.out)
   have mv : ∀ {a : Addr} {v : Value}, w.cell? a = some v → wr.drew.cell? a = some v := fun h_ => (HB.out.cell (World.block_lt_of_cell? w _ h_)).trans h_
   refine start_ (n := 17) (S := fun w' => w'.cell? (ad.add i) = some (.int .i64 (rd l1 (i : Int))) ∧ w'.cell? ⟨gf, 0, none⟩ = some (.slice A V.length c)) (ds := []) (bm 17 0) (by kernel_rfl) rfl rfl ⟨mv QX.out, mv QS.out⟩ (fun hHeld => ?_); refine with_tabW rp.tab6 rp.bits6 (fun HT_ HW_ => ?_)
   clear mv
   generalize wr.drew = wd at HB hHeld ⊢
   refine pP (i := 0) (N := some 21) (bm 17 1) rfl rfl HT_.out ?_
   refine pP (i := 1) (N := some 22) (bm 17 3) rfl rfl HT_.out ?_
   refine pP (i := 2) (N := some 23) (bm 17 7) rfl rfl HT_.out ?_
   refine pT (i := 3) (N := some 24) (bm 17 15) rfl rfl HT_.out HW_.out hHeld (by rintro w' ⟨s0, s1⟩; go_simp; with_reducible rfl) ?_
   refine pP (i := 4) (N := some 25) (bm 17 31) rfl rfl HT_.out ?_
   refine pP (i := 5) (N := some 26) (bm 17 63) rfl rfl HT_.out ?_
   refine pP (i := 6) (N := some 27) (bm 17 127) rfl rfl HT_.out ?_
   refine pP (i := 7) (N := some 28) (bm 17 255) rfl rfl HT_.out ?_
   refine pP (i := 8) (N := some 29) (bm 17 511) rfl rfl HT_.out ?_
   refine pP (i := 10) (N := some 31) (bm 17 1535) rfl rfl HT_.out ?_
   refine pP (i := 11) (N := some 32) (bm 17 3583) rfl rfl HT_.out ?_
   refine pP (i := 12) (N := some 33) (bm 17 7679) rfl rfl HT_.out ?_
   refine pT (i := 9) (N := some 30) (bm 17 8191) rfl rfl HT_.out HW_.out hHeld (by rintro w' ⟨s0, s1⟩; go_simp; with_reducible rfl) ?_
   refine pT (i := 13) (N := some 34) (bm 17 16383) rfl rfl HT_.out HW_.out hHeld (by rintro w' ⟨s0, s1⟩; go_simp; with_reducible rfl) ?_
   refine pP (i := 14) (N := some 35) (bm 17 32767) rfl rfl HT_.out ?_
   refine pP (i := 15) (N := some 36) (bm 17 65535) rfl rfl HT_.out ?_
   refine pP (i := 16) (N := some 37) (bm 17 131071) rfl rfl HT_.out ?_
   refine done_ (done_of HT_.out (by kernel_rfl)) ?_
   clear hHeld HT_ HW_
   go_wp2
   go_roundg kq
   case measure => omega
   case rel => exact ⟨i + 1, by first | rfl | (rw [w64o (by have := HK.out; have := HN.out.1; omega) (by have := HK.out; have := HN.out.1; omega)]; rfl), ⟨by have := HK.out; omega⟩, H1, ⟨qB HB⟩⟩
  | zero =>
   have H := HA.out
   rw [store_Put.a0] at H
   subst H
   have hin : i = l1.length := by have := HK.out; omega
   clear HA HK
   subst hin
   have d1 : decide ((l1.length : Int) < (l1.length : Int)) = false := decide_eq_false (by omega)
   have d2 : decide (l1.length < l1.length) = false := decide_eq_false (by omega)
   have ALL := aM (store_Put.a0_all A0_.out)
   go_wp2
   clear d1 d2
   go_loopg [41] l1.length (fun kq v41 w' => ∃ (i : Nat), v41 = .int .i64 (i : Int) ∧ Aside0 (i + kq = l1.length) ∧ Aside0 (put.a1 l1 kq i = R1) ∧ Aside0 (Below w.heap.size w w'))
   case atStart => exact ⟨0, rfl, ⟨by omega⟩, A1_, ⟨qB HB⟩⟩
   case round =>
    clear HB
    obtain ⟨i, rfl, HK, HA, HB⟩ := hrel
    cases gk with
    | succ kq =>
     have H := HA.out
     clear HA
     rw [put.a1] at H
     have d1 : decide ((i : Int) < (l1.length : Int)) = true := decide_eq_true (by have := HK.out; omega)
     have d2 : decide (i < l1.length) = true := decide_eq_true (by have := HK.out; omega)
     have p1 : (0 ≤ (i : Int)) = True := eq_true (by omega)
     have q1 : ((i : Int) < (l1.length : Int)) = True := eq_true (by have := HK.out; omega)
     have q2 : (i < l1.length) = True := eq_true (by have := HK.out; omega)
     have q5 : (i ≤ c1) = True := eq_true (by have := HK.out; have := HC1.out; omega)
     have q6 : ((i : Int) ≤ (c1 : Int)) = True := eq_true (by have := HK.out; have := HC1.out; omega)
     obtain ⟨ad, ead, hx⟩ := Kd.at_int HR1.out (i : Int) (by omega) (by have := HK.out; omega)
     cases ead
     rw [Int.toNat_natCast] at hx
     have QX := aM hx
     clear hx
     obtain ⟨bh, hbh, _⟩ := St.has_f (l := l1.take i) 200 (by have := HN.out; simp; omega) (by have := HN.out; simp; omega) (rd l1 (i : Int))
     have AH := aM hbh
     rw [hbh] at H
     have H1 := aM H
     clear H hbh
     go_wp2
     replace HB := aM (below_drew1 HB.out)
     have mv : ∀ {a : Addr} {v : Value}, w.cell? a = some v → wr.drew.cell? a = some v := fun h_ => (HB.out.cell (World.block_lt_of_cell? w _ h_)).trans h_
     refine start_ (n := 8) (S := fun w' => w'.cell? (ad.add i) = some (.int .i64 (rd l1 (i : Int)))) (ds := []) (bm 8 0) (by kernel_rfl) rfl rfl (mv QX.out) (fun hHeld => ?_); refine with_tabW rp.tab12 rp.bits12 (fun HT_ HW_ => ?_)
     clear mv
     generalize wr.drew = wd at HB hHeld ⊢
     refine pP (i := 0) (N := some 44) (bm 8 1) rfl rfl HT_.out ?_
     refine pP (i := 1) (N := some 45) (bm 8 3) rfl rfl HT_.out ?_
     refine pP (i := 2) (N := some 46) (bm 8 7) rfl rfl HT_.out ?_
     refine pP (i := 3) (N := some 47) (bm 8 15) rfl rfl HT_.out ?_
     refine pP (i := 4) (N := some 48) (bm 8 31) rfl rfl HT_.out ?_
     refine pP (i := 5) (N := some 49) (bm 8 63) rfl rfl HT_.out ?_
     refine pT (i := 6) (N := some 50) (bm 8 127) rfl rfl HT_.out HW_.out hHeld (by rintro w' s0; go_simp; with_reducible rfl) ?_
     refine one_ (i := 7) (N := some 51) (bm 8 255) rfl rfl (one_of HT_.out (by kernel_rfl)) (by decide) (fun K hK => ?_)
     refine goes_ Try.func36 (by kernel_rfl) rfl #[.slice (some ad) i c1, .int .i64 (rd l1 (i : Int))] (by rfl) rfl rfl pA ?_
     with_reducible refine (has (some ad) c1 l1 i (rd l1 (i : Int)) bh _ ?s1 HC1.out ?s2 AH.out).mono ?_
     (case s1 => exact Kd.C_below HR1.out HB.out)
     (case s2 => have := HK.out; omega)
     rintro e w9 ⟨rfl, hb⟩
     refine ⟨_, rfl, ?_⟩
     replace HB := bS (qB HB) hb
     clear hb
     have mv : ∀ {a : Addr} {v : Value}, w.cell? a = some v → w9.cell? a = some v := fun h_ => (HB.out.cell (World.block_lt_of_cell? w _ h_)).trans h_
     refine hK.out _ _ (mv QX.out) (fun hHeld => ?_)
     clear hK K
     refine norm_ (a' := ?_) ?_ ?_
     rotate_left
     ·show Act.put _ (some 51) _ = _
      simp only [Act.put, sP, i64_w, i32_w]
      rfl
     refine done_ (done_of HT_.out (by kernel_rfl)) ?_
     clear hHeld HT_ HW_
     cases bh with
     | true =>
      have H := H1.out
      rw [if_pos rfl] at H
      subst H
      go_wp2
      go_ret
      have hE := EU.out; simp at hE; obtain ⟨rfl, rfl⟩ := hE; exact ⟨pE, Or.inl ⟨by decide, rfl, qB HB⟩⟩
     | false =>
      have H2 := aM (show put.a1 l1 kq (i + 1) = R1 by have H := H1.out; rwa [if_neg (by simp)] at H)
      go_wp2
      go_roundg kq
      case measure => omega
      case rel => exact ⟨i + 1, by first | rfl | (rw [w64o (by have := HK.out; have := HN.out.1; omega) (by have := HK.out; have := HN.out.1; omega)]; rfl), ⟨by have := HK.out; omega⟩, H2, ⟨qB HB⟩⟩
    | zero =>
     have H := HA.out
     rw [put.a1] at H
     subst H
     have hin : i = l1.length := by have := HK.out; omega
     clear HA HK
     subst hin
     have d1 : decide ((l1.length : Int) < (l1.length : Int)) = false := decide_eq_false (by omega)
     have d2 : decide (l1.length < l1.length) = false := decide_eq_false (by omega)
     have hczs := blk2 (blk_below HS.out HB.out)
     go_wp2_with (first | ((with_reducible refine gate_builtin (b := .append) (xs := #[.tmp 53, .tmp 57]) rfl ?_); at_builtin; refine Kd.R_append_rows (kE W) (w0 := w) w.heap.size rfl (.tmp 53) (.tmp 57) 23 80 (.agg #[(.bool false), (.slice none 0 0), (.slice none 0 0), (.int .u64 0), (.int .i64 0)]) 72 rfl Try.underlying23 info80 rfl (by show 0 < 5; decide) (by omega) (.slice none 0 0) [] V A V.length c (fun _ => True) (fun _ => False) rfl rfl ?aO ?aR (fun _ _ h => h) (fun _ h => h.elim) (fun _ _ => trivial) ?aB ?aS ?aL ?_; (case aO => exact Kd.R_nil _ _ _ _ _); (case aR => exact Kd.C_below HV.out (qB HB)); (case aB => exact qB HB); (case aS => exact below_size (qB HB)); (case aL => have := HN.out.2.1; simp; omega); intro v9 w9 ho hb _ _; rw [List.nil_append] at ho; replace HB := aM hb; have HO := aM (R_S ho); clear ho hb hczs))
     obtain ⟨gl, cl, el, hgl, _, _⟩ := Kd.S_form HO.out (by have := HN.out.2.2.1; omega)
     subst el
     clear d1 d2
     have HGL := aM hgl
     clear hgl
     go_loopg [61] l1.length (fun kq v61 w' => ∃ (i : Nat) (U : List S80), v61 = .int .i64 (i : Int) ∧ Aside0 (i + kq = l1.length) ∧ Aside0 (store_Put.a2 l1 l2 kq i U = RV) ∧ Aside0 (U.length = V.length) ∧ Aside0 (Kd.S (kE W) 80 w' w.heap.size (fun _ => True) (.slice (some ⟨gl, 0, none⟩) V.length cl) U) ∧ Aside0 (Below w.heap.size w w'))
     case atStart => exact ⟨0, V, rfl, ⟨by omega⟩, A2_, ⟨rfl⟩, ⟨by first | exact HO.out | ((with_reducible repeat (first | apply Kd.S_alloc | apply Kd.S_drewN | apply Kd.S_drew)); exact HO.out)⟩, ⟨qB HB⟩⟩
     case round =>
      clear HB HO
      obtain ⟨i, U, rfl, HK, HA, HU, HO, HB⟩ := hrel
      cases gk with
      | succ kq =>
       have H1 := aM (show store_Put.a2 l1 l2 kq (i + 1) (U.set (rd l1 (i : Int)).toNat (rd_T80 l2 (i : Int))) = RV from HA.out)
       clear HA
       have d1 : decide ((i : Int) < (l1.length : Int)) = true := decide_eq_true (by have := HK.out; omega)
       have d2 : decide (i < l1.length) = true := decide_eq_true (by have := HK.out; omega)
       have p1 : (0 ≤ (i : Int)) = True := eq_true (by omega)
       have q1 : ((i : Int) < (l1.length : Int)) = True := eq_true (by have := HK.out; omega)
       have q2 : (i < l1.length) = True := eq_true (by have := HK.out; omega)
       have q3 : ((i : Int) < (l2.length : Int)) = True := eq_true (by have := HK.out; have := HL.out; omega)
       have q3n : (i < l2.length) = True := eq_true (by have := HK.out; have := HL.out; omega)
       obtain ⟨g0, g1⟩ := ALL.out i (by omega) (by have := HK.out; omega)
       have p2 : (0 ≤ rd l1 (i : Int)) = True := eq_true g0
       have q4 : (rd l1 (i : Int) < (V.length : Int)) = True := eq_true g1
       obtain ⟨ad, ead, hx⟩ := Kd.at_int HR1.out (i : Int) (by omega) (by have := HK.out; omega)
       cases ead
       rw [Int.toNat_natCast] at hx
       have QX := aM hx
       clear hx
       obtain ⟨ad2, B1, b1, B2, b2, ead2, hy0, hy1, hy2, hy3, hy4, hl1, hi1, hl2, hi2_⟩ := at_T80 HR2.out (i : Int) (by omega) (by have := HK.out; have := HL.out; omega)
       cases ead2
       have HYK := aM (k80_mk W (rd_T80 l2 (i : Int)) hl1 hi1 hl2 hi2_)
       have mw : ∀ {a : Addr} {v : Value}, W.cell? a = some v → w.cell? a = some v := fun h_ => (HBW.out.cell (World.block_lt_of_cell? W _ h_)).trans h_
       have HY := aM (And.intro (mw hy0) (And.intro (mw hy1) (And.intro (mw hy2) (And.intro (mw hy3) (mw hy4)))))
       clear hy0 hy1 hy2 hy3 hy4 hl1 hi1 hl2 hi2_ mw
       go_wp2
       replace HB := aM (below_drew1 HB.out)
       replace HO := aM (Kd.S_drew HO.out)
       have mv : ∀ {a : Addr} {v : Value}, w.cell? a = some v → wr.drew.cell? a = some v := fun h_ => (HB.out.cell (World.block_lt_of_cell? w _ h_)).trans h_
       refine start_ (n := 11) (S := fun w' => w'.cell? (ad.add i) = some (.int .i64 (rd l1 (i : Int))) ∧ w'.cell? (ad2.add (i * 5)) = some (.bool ((rd_T80 l2 (i : Int)).f0.f0)) ∧ w'.cell? ⟨(ad2.add (i * 5)).block, (ad2.add (i * 5)).off + 1, none⟩ = some (.slice B1 ((rd_T80 l2 (i : Int)).f0.f1).length b1) ∧ w'.cell? ⟨(ad2.add (i * 5)).block, (ad2.add (i * 5)).off + 2, none⟩ = some (.slice B2 ((rd_T80 l2 (i : Int)).f0.f2).length b2) ∧ w'.cell? ⟨(ad2.add (i * 5)).block, (ad2.add (i * 5)).off + 3, none⟩ = some (.int .u64 ((rd_T80 l2 (i : Int)).f1)) ∧ w'.cell? ⟨(ad2.add (i * 5)).block, (ad2.add (i * 5)).off + 4, none⟩ = some (.int .i64 ((rd_T80 l2 (i : Int)).f2))) (ds := []) (bm 11 0) (by kernel_rfl) rfl rfl ⟨mv QX.out, mv HY.out.1, mv HY.out.2.1, mv HY.out.2.2.1, mv HY.out.2.2.2.1, mv HY.out.2.2.2.2⟩ (fun hHeld => ?_); refine with_tabW rp.tab20 rp.bits20 (fun HT_ HW_ => ?_)
       clear mv
       generalize wr.drew = we at HB HO hHeld ⊢
       refine pP (i := 0) (N := some 64) (bm 11 1) rfl rfl HT_.out ?_
       refine pP (i := 1) (N := some 65) (bm 11 3) rfl rfl HT_.out ?_
       refine pP (i := 2) (N := some 66) (bm 11 7) rfl rfl HT_.out ?_
       refine pP (i := 3) (N := some 67) (bm 11 15) rfl rfl HT_.out ?_
       refine pP (i := 5) (N := some 69) (bm 11 47) rfl rfl HT_.out ?_
       refine pP (i := 6) (N := some 70) (bm 11 111) rfl rfl HT_.out ?_
       refine pP (i := 7) (N := some 71) (bm 11 239) rfl rfl HT_.out ?_
       refine pT (i := 4) (N := some 68) (bm 11 255) rfl rfl HT_.out HW_.out hHeld (by rintro w' ⟨s0, s1, s2, s3, s4, s5⟩; go_simp; with_reducible rfl) ?_
       refine pT (i := 8) (N := some 72) (bm 11 511) rfl rfl HT_.out HW_.out hHeld (by rintro w' ⟨s0, s1, s2, s3, s4, s5⟩; go_simp; with_reducible rfl) ?_
       refine pP (i := 9) (N := some 73) (bm 11 1023) rfl rfl HT_.out ?_
       refine one_ (i := 10) (N := none) (bm 11 2047) rfl rfl (one_of HT_.out (by kernel_rfl)) (by decide) (fun K hK => ?_)
       obtain ⟨oki, cc, hcl, hM0, hcc, hfr, hoki, hH⟩ := Kd.S_elem HO.out z80 (rd l1 (i : Int)) g0 g1
       obtain ⟨t0, t1, t2, t3, t4, rfl⟩ : ∃ t0 t1 t2 t3 t4, cc = [t0, t1, t2, t3, t4] := by
        match cc, hcl with
        | [t0, t1, t2, t3, t4], _ => exact ⟨t0, t1, t2, t3, t4, rfl⟩
       have hs0 : we.cell? ⟨gl, (rd l1 (i : Int)).toNat * 5, none⟩ = some t0 := hcc 0 _ rfl
       have hs1 : we.cell? ⟨gl, (rd l1 (i : Int)).toNat * 5 + 1, none⟩ = some t1 := hcc 1 _ rfl
       have hs2 : we.cell? ⟨gl, (rd l1 (i : Int)).toNat * 5 + 2, none⟩ = some t2 := hcc 2 _ rfl
       have hs3 : we.cell? ⟨gl, (rd l1 (i : Int)).toNat * 5 + 3, none⟩ = some t3 := hcc 3 _ rfl
       have hs4 : we.cell? ⟨gl, (rd l1 (i : Int)).toNat * 5 + 4, none⟩ = some t4 := hcc 4 _ rfl
       have hf0 : we.frozen? ⟨gl, (rd l1 (i : Int)).toNat * 5, none⟩ = false := hfr 0
       have hf1 : we.frozen? ⟨gl, (rd l1 (i : Int)).toNat * 5 + 1, none⟩ = false := hfr 1
       have hf2 : we.frozen? ⟨gl, (rd l1 (i : Int)).toNat * 5 + 2, none⟩ = false := hfr 2
       have hf3 : we.frozen? ⟨gl, (rd l1 (i : Int)).toNat * 5 + 3, none⟩ = false := hfr 3
       have hf4 : we.frozen? ⟨gl, (rd l1 (i : Int)).toNat * 5 + 4, none⟩ = false := hfr 4
       have SEG := aM (Kd.S_seg (ok := fun _ => True) (okg := fun _ => False) (Kd.H_mono hH (fun _ _ => ⟨trivial, id⟩)) g0 g1 (seg := [.bool ((rd_T80 l2 (i : Int)).f0.f0), .slice B1 ((rd_T80 l2 (i : Int)).f0.f1).length b1, .slice B2 ((rd_T80 l2 (i : Int)).f0.f2).length b2, .int .u64 ((rd_T80 l2 (i : Int)).f1), .int .i64 ((rd_T80 l2 (i : Int)).f2)]) (j := 0) (by exact Nat.le_refl 5) (x' := (rd_T80 l2 (i : Int))) (kEM HYK.out) (fun _ h_ => Or.inr h_) (fun _ h_ => h_.elim))
       refine skip_ (w1 := ?_) (by rfl) rfl ?_ ?_
       rotate_left
       ·go_simp
        rfl
       suffices h_ : K _ (we.setCells gl ((rd l1 (i : Int)).toNat * (kE W).sz + 0) [.bool ((rd_T80 l2 (i : Int)).f0.f0), .slice B1 ((rd_T80 l2 (i : Int)).f0.f1).length b1, .slice B2 ((rd_T80 l2 (i : Int)).f0.f2).length b2, .int .u64 ((rd_T80 l2 (i : Int)).f1), .int .i64 ((rd_T80 l2 (i : Int)).f2)]) from h_
       clear hs0 hs1 hs2 hs3 hs4 hf0 hf1 hf2 hf3 hf4 hcc hfr hH hM0 hoki hcl HO hHeld
       generalize we.setCells gl ((rd l1 (i : Int)).toNat * (kE W).sz + 0) [.bool ((rd_T80 l2 (i : Int)).f0.f0), .slice B1 ((rd_T80 l2 (i : Int)).f0.f1).length b1, .slice B2 ((rd_T80 l2 (i : Int)).f0.f2).length b2, .int .u64 ((rd_T80 l2 (i : Int)).f1), .int .i64 ((rd_T80 l2 (i : Int)).f2)] = w13 at SEG ⊢
       obtain ⟨s1, s2⟩ := SEG.out
       clear SEG
       replace HB := aM (HB.out.grown s2 (below_size HB.out) (fun k e_ => by cases e_; exact HGL.out))
       have HO := aM s1
       clear s1 s2
       have mv : ∀ {a : Addr} {v : Value}, w.cell? a = some v → w13.cell? a = some v := fun h_ => (HB.out.cell (World.block_lt_of_cell? w _ h_)).trans h_
       refine hK.out _ _ ⟨mv QX.out, mv HY.out.1, mv HY.out.2.1, mv HY.out.2.2.1, mv HY.out.2.2.2.1, mv HY.out.2.2.2.2⟩ (fun hHeld => ?_)
       clear hK K
       refine done_ (done_of HT_.out (by kernel_rfl)) ?_
       clear hHeld HT_ HW_
       try go_wp2
       go_roundg kq
       case measure => omega
       case rel => exact ⟨i + 1, _, by first | rfl | (rw [w64o (by have := HK.out; have := HN.out.1; omega) (by have := HK.out; have := HN.out.1; omega)]; rfl), ⟨by have := HK.out; omega⟩, H1, ⟨by rw [List.length_set]; exact HU.out⟩, ⟨by first | exact HO.out | ((with_reducible repeat (first | apply Kd.S_alloc | apply Kd.S_drewN | apply Kd.S_drew)); exact HO.out)⟩, ⟨qB HB⟩⟩
      | zero =>
       have H := HA.out
       rw [store_Put.a2] at H
       subst H
       have hin : i = l1.length := by have := HK.out; omega
       clear HA HK
       subst hin
       have d1 : decide ((l1.length : Int) < (l1.length : Int)) = false := decide_eq_false (by omega)
       have d2 : decide (l1.length < l1.length) = false := decide_eq_false (by omega)
       have hczs := blk2 (blk_below HS.out HB.out)
       go_wp2
       go_ret
       have hE := EU.out
       simp at hE
       obtain ⟨rfl, rfl⟩ := hE
       exact ⟨pE, Or.inr ⟨rfl, some ⟨gl, 0, none⟩, cl, blk_put (blk_put (blk_below HS.out HB.out) 0 _ rfl) 1 _ rfl, Kd.S_mono (Kd.S_far (Kd.S_far (Kd.S_mono (Kd.S_bound HO.out) (ok' := fun k => w.heap.size ≤ k) (fun _ h_ => h_.2.1)) (p := ⟨gf, 0, none⟩) (fun k h_ => by have := blk_lt HS.out; exact fun e_ => by subst e_; exact absurd h_ (by omega)) _) (p := ⟨gf, 1, none⟩) (fun k h_ => by have := blk_lt HS.out; exact fun e_ => by subst e_; exact absurd h_ (by omega)) _) (fun _ _ => trivial), below_set (below_set (below_step HBW.out HB.out) HN.out.2.2.2) HN.out.2.2.2, by rw [World.size_setCell, World.size_setCell]; exact below_size HB.out, fun k a_ b_ => (Below.heap_setCell _ ⟨gf, 1, none⟩ _ k b_).trans ((Below.heap_setCell _ ⟨gf, 0, none⟩ _ k b_).trans (HB.out.block k a_))⟩⟩
end Rf
end Go.Proofs.Ytmhikecbajkonaa.Q
