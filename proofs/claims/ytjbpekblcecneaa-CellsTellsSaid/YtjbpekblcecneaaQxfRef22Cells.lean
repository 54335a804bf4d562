-- By wip/gprint.py (this session's), out of the kit's print.py.
import Derived.Test.YtjbpekblcecneaaQx0
import Derived.Test.YtjbpekblcecneaaQxfRef19Check
import Derived.Test.YtjbpekblcecneaaQxfRef20All
namespace Go.Proofs.Ytjbpekblcecneaa.Q
open Go.RowKit Go.Proofs.YtjbpekblcecneaaW.PrintWords Go.Proofs.YtjbpekblcecneaaW.PrintLast Go.Proofs.YtjbpekblcecneaaW.PrintMore
attribute [local go_sem] max2_int min2_int max_two min_two max_three min_three max_four min_four   -- for this text's walks alone
set_option linter.unusedVariables false
set_option linter.unusedSimpArgs false

/-! ### gradineref22_Cells: function 10 -/
mutual
def gradineref22_Cells.j0 : Nat → Int → Bool → Int → List Int → List Int → Option (List Int)
 | 0, _, _, _, _, _ => none
 | k + 1, x1, x38, zg, ze, zd => if x38 = true then (some ([] : List Int)) else (gradineref22_Cells.l0 k x1 (ze.length : Int) 0 zg ze zd)
def gradineref22_Cells.l0 : Nat → Int → Int → Int → Int → List Int → List Int → Option (List Int)
 | 0, _, _, _, _, _, _ => none
 | k + 1, x1, x41, x42, zg, ze, zd => if x42 < x41 then (if 0 ≤ x42 then (if x42 < (ze.length : Int) then (if (rd ze x42) > 1 then (if x42 < (zd.length : Int) then (if (rd zd x42) ≥ x1 then (some ([] : List Int)) else (if (rd zd x42) ≤ (wrap64 (-x1)) then (some ([] : List Int)) else (gradineref22_Cells.l0 k x1 x41 (wrap64 (x42 + 1)) zg ze zd))) else (none)) else (gradineref22_Cells.l0 k x1 x41 (wrap64 (x42 + 1)) zg ze zd)) else (none)) else (none)) else ((gradineref20_All.f k ze).bind fun zc => (gradineref22_Cells.l1 k x1 zc ([] : List Int) (zc.length : Int) 0 zg ze zd))
def gradineref22_Cells.l1 : Nat → Int → List (List Int) → List Int → Int → Int → Int → List Int → List Int → Option (List Int)
 | 0, _, _, _, _, _, _, _, _ => none
 | k + 1, x1, x6, x7, x75, x76, zg, ze, zd => if x76 < x75 then (if 0 ≤ x76 then (if x76 < (x6.length : Int) then (gradineref22_Cells.l2 k x1 x6 x7 x76 zg x75 x76 ((rd_L1 x6 x76).length : Int) 0 zg ze zd) else (none)) else (none)) else (some x7)
def gradineref22_Cells.l2 : Nat → Int → List (List Int) → List Int → Int → Int → Int → Int → Int → Int → Int → List Int → List Int → Option (List Int)
 | 0, _, _, _, _, _, _, _, _, _, _, _, _ => none
 | k + 1, x1, x6, x7, x8, x9, x75, x76, x85, x86, zg, ze, zd => if x86 < x85 then (if 0 ≤ x8 then (if x8 < (x6.length : Int) then (if 0 ≤ x86 then (if x86 < ((rd_L1 x6 x8).length : Int) then (if (rd (rd_L1 x6 x8) x86) > 0 then (if x86 < (zd.length : Int) then (gradineref22_Cells.l2 k x1 x6 x7 x8 (wrap64 (x9 + (wrap64 ((rd (rd_L1 x6 x8) x86) * (rd zd x86))))) x75 x76 x85 (wrap64 (x86 + 1)) zg ze zd) else (none)) else (gradineref22_Cells.l2 k x1 x6 x7 x8 x9 x75 x76 x85 (wrap64 (x86 + 1)) zg ze zd)) else (none)) else (none)) else (none)) else (none)) else (if x9 < 0 then (some ([] : List Int)) else (if x9 ≥ x1 then (some ([] : List Int)) else (if x7.length < 17592186044416 then (gradineref22_Cells.l1 k x1 x6 (x7 ++ [x9]) x75 (wrap64 (x76 + 1)) zg ze zd) else (none))))
end
def gradineref22_Cells.f (k : Nat) (a0_0 : Int) (l0_1 : List Int) (l0_2 : List Int) (a1 : Int) : Option (List Int) := (gradineref19_Check.f k l0_1).bind fun zj => (if zj = 0 then (if (l0_2.length : Int) = (l0_1.length : Int) then (if a1 > 64 then (gradineref22_Cells.j0 k a1 true a0_0 l0_1 l0_2) else (if a0_0 < 0 then (gradineref22_Cells.j0 k a1 true a0_0 l0_1 l0_2) else (gradineref22_Cells.j0 k a1 (decide (a0_0 ≥ a1)) a0_0 l0_1 l0_2))) else (gradineref22_Cells.j0 k a1 true a0_0 l0_1 l0_2)) else (gradineref22_Cells.j0 k a1 true a0_0 l0_1 l0_2))
set_option maxHeartbeats 8000000 in
set_option maxRecDepth 100000 in
theorem gradineref22_Cells.calls (k : Nat) (a0_0 : Int) (A0_1 : Option Addr) (c0_1 : Nat) (l0_1 : List Int) (A0_2 : Option Addr) (c0_2 : Nat) (l0_2 : List Int) (a1 : Int) (r : List Int) (w : World) (hr0_1 : Kd.C (Kd.int .i64) w A0_1 l0_1.length l0_1) (hc0_1 : l0_1.length ≤ c0_1) (hr0_2 : Kd.C (Kd.int .i64) w A0_2 l0_2.length l0_2) (hc0_2 : l0_2.length ≤ c0_2) (h : gradineref22_Cells.f k a0_0 l0_1 l0_2 a1 = some r) :
  Calls Try.prog 10 #[.agg #[.int .i64 a0_0, .slice A0_1 l0_1.length c0_1, .slice A0_2 l0_2.length c0_2], .int .i64 a1] w fun e w' => ∃ v0_ : Value, e = .returned (v0_) ∧ Kd.R (Kd.int .i64) 3 w' w.heap.size (fun _ => True) v0_ r ∧ Below w.heap.size w w' := by
 have hu24 := Try.underlying24
 have zf := aM hr0_1
 have zi := aM hc0_1
 clear hr0_1 hc0_1
 have zo := aM hr0_2
 have HC0_2 := aM hc0_2
 clear hr0_2 hc0_2
 have HB := aM (Below.refl w.heap.size w)
 have H : ((gradineref19_Check.f k l0_1).bind fun zj => (if zj = 0 then (if (l0_2.length : Int) = (l0_1.length : Int) then (if a1 > 64 then (gradineref22_Cells.j0 k a1 true a0_0 l0_1 l0_2) else (if a0_0 < 0 then (gradineref22_Cells.j0 k a1 true a0_0 l0_1 l0_2) else (gradineref22_Cells.j0 k a1 (decide (a0_0 ≥ a1)) a0_0 l0_1 l0_2))) else (gradineref22_Cells.j0 k a1 true a0_0 l0_1 l0_2)) else (gradineref22_Cells.j0 k a1 true a0_0 l0_1 l0_2))) = some r := h
 clear h
 have HC3 := aM H
 clear H
 go_enter Try.func10, Try.ntmps10
 go_upto_region 1 with (first | ((with_reducible refine gate_dst (N := 2) rfl ?_); (try (refine gate_guard (by rfl) ?_; dsimp only)); refine box_event ?hg (N := 2) ?hd (cs := #[.int .i64 a0_0, .slice A0_1 l0_1.length c0_1, .slice A0_2 l0_2.length c0_2]) (t := 24) ?hr ?_; (case hd => rfl); (case hg => rfl); (case hr => first | (go_simp; done) | (go_simp; rfl)); intro zh hg w4 hbox hb; have za := aM (hbox); have zq := gE (w := w) hg (qB HB); have zb := zq; replace HB := bS (qB HB) hb; clear hb hbox hg))
 repeat (go_quiet (first | ((with_reducible refine gate_dst (N := 2) rfl ?_); (try (refine gate_guard (by rfl) ?_; dsimp only)); refine box_event ?hg (N := 2) ?hd (cs := #[.int .i64 a0_0, .slice A0_1 l0_1.length c0_1, .slice A0_2 l0_2.length c0_2]) (t := 24) ?hr ?_; (case hd => rfl); (case hg => rfl); (case hr => first | (go_simp; done) | (go_simp; rfl)); intro zh hg w4 hbox hb; have za := aM (hbox); have zq := gE (w := w) hg (qB HB); have zb := zq; replace HB := bS (qB HB) hb; clear hb hbox hg)); go_upto_region 1 with (first | ((with_reducible refine gate_dst (N := 2) rfl ?_); (try (refine gate_guard (by rfl) ?_; dsimp only)); refine box_event ?hg (N := 2) ?hd (cs := #[.int .i64 a0_0, .slice A0_1 l0_1.length c0_1, .slice A0_2 l0_2.length c0_2]) (t := 24) ?hr ?_; (case hd => rfl); (case hg => rfl); (case hr => first | (go_simp; done) | (go_simp; rfl)); intro zh hg w4 hbox hb; have za := aM (hbox); have zq := gE (w := w) hg (qB HB); have zb := zq; replace HB := bS (qB HB) hb; clear hb hbox hg)))
 (try simp only [Act.put, sP])
 go_cut [38] (fun v38 wc => ∃ (kq : Nat) (x38_2 : Bool), v38 = .bool x38_2 ∧ Aside0 (gradineref22_Cells.j0 kq a1 x38_2 a0_0 l0_1 l0_2 = some r) ∧ Aside0 (kq ≤ k) ∧ Aside0 (wc.heap[zh]? = some (.cells #[.int .i64 a0_0, (.slice A0_1 l0_1.length c0_1), (.slice A0_2 l0_2.length c0_2)] 24 (0, 0))) ∧ Aside0 (Below w.heap.size w wc))
 case first =>
  have H := HC3.out
  clear HC3
  replace H := Option.bind_eq_some_iff.mp H
  obtain ⟨zj, A50, H⟩ := H
  try dsimp only at H
  have A5 := aM A50
  clear A50
  by_cases c6 : zj = 0
  rotate_left
  ·rw [if_neg c6] at H
   have zs : (zj == 0) = false := beq_eq_false_iff_ne.mpr c6
   have c6b1 : (zj != 0) = true := bne_iff_ne.mpr c6
   (first | rw [zs] | (simp only [i64_w, i32_w]; rw [zs]) | skip)
   have H' := aM H
   clear H
   obtain ⟨hcz14_0, hcz14_1, hcz14_2, hfz14_0, hfz14_1, hfz14_2⟩ := blk3 za.out
   go_wp2_with (first | (go_at_call 15; (with_reducible refine (gradineref19_Check.calls k _ _ l0_1 zj _ ?s1 ?s2 A5.out).mono ?_); (case s1 => exact sC zf HB); (case s2 => exact zi.out); rintro e w' ⟨rfl, ⟨nd, rfl⟩⟩; (try first | exact ⟨rfl, _, World.drewN_drewN _ _ _⟩ | exact ⟨rfl, _, Eq.trans (World.drewN_drewN _ _ _) (congrArg (World.drewN _) (Nat.add_assoc _ _ _))⟩)))
   repeat (go_quiet (first | (go_at_call 15; (with_reducible refine (gradineref19_Check.calls k _ _ l0_1 zj _ ?s1 ?s2 A5.out).mono ?_); (case s1 => exact sC zf HB); (case s2 => exact zi.out); rintro e w' ⟨rfl, ⟨nd, rfl⟩⟩; (try first | exact ⟨rfl, _, World.drewN_drewN _ _ _⟩ | exact ⟨rfl, _, Eq.trans (World.drewN_drewN _ _ _) (congrArg (World.drewN _) (Nat.add_assoc _ _ _))⟩))); try go_wp2_with (first | (go_at_call 15; (with_reducible refine (gradineref19_Check.calls k _ _ l0_1 zj _ ?s1 ?s2 A5.out).mono ?_); (case s1 => exact sC zf HB); (case s2 => exact zi.out); rintro e w' ⟨rfl, ⟨nd, rfl⟩⟩; (try first | exact ⟨rfl, _, World.drewN_drewN _ _ _⟩ | exact ⟨rfl, _, Eq.trans (World.drewN_drewN _ _ _) (congrArg (World.drewN _) (Nat.add_assoc _ _ _))⟩))))
   go_meet
   case rel => exact ⟨_, (true), (pF), H', ⟨by first | omega | exact Nat.le_refl _⟩, ⟨pK za.out⟩, ⟨qB1 HB zb⟩⟩
  rw [if_pos c6] at H
  have zs : (zj == 0) = true := beq_iff_eq.mpr c6
  have c6b1 : (zj != 0) = false := bne_eq_false_iff_eq.mpr c6
  clear c6
  (first | rw [zs] | (simp only [i64_w, i32_w]; rw [zs]) | skip)
  by_cases c7 : (l0_2.length : Int) = (l0_1.length : Int)
  rotate_left
  ·rw [if_neg c7] at H
   have c7b0 : ((l0_2.length : Int) == (l0_1.length : Int)) = false := beq_eq_false_iff_ne.mpr c7
   have c7b1 : ((l0_2.length : Int) != (l0_1.length : Int)) = true := bne_iff_ne.mpr c7
   have c7b2 : (l0_2.length == l0_1.length) = false := by first | simpa using c7 | (simp at c7 ⊢; omega)
   have H' := aM H
   clear H
   obtain ⟨hcz13_0, hcz13_1, hcz13_2, hfz13_0, hfz13_1, hfz13_2⟩ := blk3 za.out
   go_wp2_with (first | (go_at_call 15; (with_reducible refine (gradineref19_Check.calls k _ _ l0_1 zj _ ?s1 ?s2 A5.out).mono ?_); (case s1 => exact sC zf HB); (case s2 => exact zi.out); rintro e w' ⟨rfl, ⟨nd, rfl⟩⟩; (try first | exact ⟨rfl, _, World.drewN_drewN _ _ _⟩ | exact ⟨rfl, _, Eq.trans (World.drewN_drewN _ _ _) (congrArg (World.drewN _) (Nat.add_assoc _ _ _))⟩)))
   repeat (go_quiet (first | (go_at_call 15; (with_reducible refine (gradineref19_Check.calls k _ _ l0_1 zj _ ?s1 ?s2 A5.out).mono ?_); (case s1 => exact sC zf HB); (case s2 => exact zi.out); rintro e w' ⟨rfl, ⟨nd, rfl⟩⟩; (try first | exact ⟨rfl, _, World.drewN_drewN _ _ _⟩ | exact ⟨rfl, _, Eq.trans (World.drewN_drewN _ _ _) (congrArg (World.drewN _) (Nat.add_assoc _ _ _))⟩))); try go_wp2_with (first | (go_at_call 15; (with_reducible refine (gradineref19_Check.calls k _ _ l0_1 zj _ ?s1 ?s2 A5.out).mono ?_); (case s1 => exact sC zf HB); (case s2 => exact zi.out); rintro e w' ⟨rfl, ⟨nd, rfl⟩⟩; (try first | exact ⟨rfl, _, World.drewN_drewN _ _ _⟩ | exact ⟨rfl, _, Eq.trans (World.drewN_drewN _ _ _) (congrArg (World.drewN _) (Nat.add_assoc _ _ _))⟩))))
   go_meet
   case rel => exact ⟨_, (true), (pF), H', ⟨by first | omega | exact Nat.le_refl _⟩, ⟨pK za.out⟩, ⟨qB1 HB zb⟩⟩
  rw [if_pos c7] at H
  have c7b0 : ((l0_2.length : Int) == (l0_1.length : Int)) = true := beq_iff_eq.mpr c7
  have c7b1 : ((l0_2.length : Int) != (l0_1.length : Int)) = false := bne_eq_false_iff_eq.mpr c7
  have c7b2 : (l0_2.length == l0_1.length) = true := by first | simpa using c7 | (simp at c7 ⊢; omega)
  clear c7
  by_cases c8 : a1 > 64
  ·rw [if_pos c8] at H
   have c8b0 : decide (64 < a1) = true := decide_eq_true c8
   clear c8
   have H' := aM H
   clear H
   obtain ⟨hcz9_0, hcz9_1, hcz9_2, hfz9_0, hfz9_1, hfz9_2⟩ := blk3 za.out
   go_wp2_with (first | (go_at_call 15; (with_reducible refine (gradineref19_Check.calls k _ _ l0_1 zj _ ?s1 ?s2 A5.out).mono ?_); (case s1 => exact sC zf HB); (case s2 => exact zi.out); rintro e w' ⟨rfl, ⟨nd, rfl⟩⟩; (try first | exact ⟨rfl, _, World.drewN_drewN _ _ _⟩ | exact ⟨rfl, _, Eq.trans (World.drewN_drewN _ _ _) (congrArg (World.drewN _) (Nat.add_assoc _ _ _))⟩)))
   repeat (go_quiet (first | (go_at_call 15; (with_reducible refine (gradineref19_Check.calls k _ _ l0_1 zj _ ?s1 ?s2 A5.out).mono ?_); (case s1 => exact sC zf HB); (case s2 => exact zi.out); rintro e w' ⟨rfl, ⟨nd, rfl⟩⟩; (try first | exact ⟨rfl, _, World.drewN_drewN _ _ _⟩ | exact ⟨rfl, _, Eq.trans (World.drewN_drewN _ _ _) (congrArg (World.drewN _) (Nat.add_assoc _ _ _))⟩))); try go_wp2_with (first | (go_at_call 15; (with_reducible refine (gradineref19_Check.calls k _ _ l0_1 zj _ ?s1 ?s2 A5.out).mono ?_); (case s1 => exact sC zf HB); (case s2 => exact zi.out); rintro e w' ⟨rfl, ⟨nd, rfl⟩⟩; (try first | exact ⟨rfl, _, World.drewN_drewN _ _ _⟩ | exact ⟨rfl, _, Eq.trans (World.drewN_drewN _ _ _) (congrArg (World.drewN _) (Nat.add_assoc _ _ _))⟩))))
   go_meet
   case rel => exact ⟨_, (true), (pF), H', ⟨by first | omega | exact Nat.le_refl _⟩, ⟨pK za.out⟩, ⟨qB1 HB zb⟩⟩
  rw [if_neg c8] at H
  have c8b0 : decide (64 < a1) = false := decide_eq_false c8
  clear c8
  by_cases c10 : a0_0 < 0
  ·rw [if_pos c10] at H
   have c10b0 : decide (a0_0 < 0) = true := decide_eq_true c10
   clear c10
   have H' := aM H
   clear H
   obtain ⟨hcz11_0, hcz11_1, hcz11_2, hfz11_0, hfz11_1, hfz11_2⟩ := blk3 za.out
   go_wp2_with (first | (go_at_call 15; (with_reducible refine (gradineref19_Check.calls k _ _ l0_1 zj _ ?s1 ?s2 A5.out).mono ?_); (case s1 => exact sC zf HB); (case s2 => exact zi.out); rintro e w' ⟨rfl, ⟨nd, rfl⟩⟩; (try first | exact ⟨rfl, _, World.drewN_drewN _ _ _⟩ | exact ⟨rfl, _, Eq.trans (World.drewN_drewN _ _ _) (congrArg (World.drewN _) (Nat.add_assoc _ _ _))⟩)))
   repeat (go_quiet (first | (go_at_call 15; (with_reducible refine (gradineref19_Check.calls k _ _ l0_1 zj _ ?s1 ?s2 A5.out).mono ?_); (case s1 => exact sC zf HB); (case s2 => exact zi.out); rintro e w' ⟨rfl, ⟨nd, rfl⟩⟩; (try first | exact ⟨rfl, _, World.drewN_drewN _ _ _⟩ | exact ⟨rfl, _, Eq.trans (World.drewN_drewN _ _ _) (congrArg (World.drewN _) (Nat.add_assoc _ _ _))⟩))); try go_wp2_with (first | (go_at_call 15; (with_reducible refine (gradineref19_Check.calls k _ _ l0_1 zj _ ?s1 ?s2 A5.out).mono ?_); (case s1 => exact sC zf HB); (case s2 => exact zi.out); rintro e w' ⟨rfl, ⟨nd, rfl⟩⟩; (try first | exact ⟨rfl, _, World.drewN_drewN _ _ _⟩ | exact ⟨rfl, _, Eq.trans (World.drewN_drewN _ _ _) (congrArg (World.drewN _) (Nat.add_assoc _ _ _))⟩))))
   go_meet
   case rel => exact ⟨_, (true), (pF), H', ⟨by first | omega | exact Nat.le_refl _⟩, ⟨pK za.out⟩, ⟨qB1 HB zb⟩⟩
  rw [if_neg c10] at H
  have c10b0 : decide (a0_0 < 0) = false := decide_eq_false c10
  clear c10
  have H' := aM H
  clear H
  obtain ⟨hcz12_0, hcz12_1, hcz12_2, hfz12_0, hfz12_1, hfz12_2⟩ := blk3 za.out
  go_wp2_with (first | (go_at_call 15; (with_reducible refine (gradineref19_Check.calls k _ _ l0_1 zj _ ?s1 ?s2 A5.out).mono ?_); (case s1 => exact sC zf HB); (case s2 => exact zi.out); rintro e w' ⟨rfl, ⟨nd, rfl⟩⟩; (try first | exact ⟨rfl, _, World.drewN_drewN _ _ _⟩ | exact ⟨rfl, _, Eq.trans (World.drewN_drewN _ _ _) (congrArg (World.drewN _) (Nat.add_assoc _ _ _))⟩)))
  repeat (go_quiet (first | (go_at_call 15; (with_reducible refine (gradineref19_Check.calls k _ _ l0_1 zj _ ?s1 ?s2 A5.out).mono ?_); (case s1 => exact sC zf HB); (case s2 => exact zi.out); rintro e w' ⟨rfl, ⟨nd, rfl⟩⟩; (try first | exact ⟨rfl, _, World.drewN_drewN _ _ _⟩ | exact ⟨rfl, _, Eq.trans (World.drewN_drewN _ _ _) (congrArg (World.drewN _) (Nat.add_assoc _ _ _))⟩))); try go_wp2_with (first | (go_at_call 15; (with_reducible refine (gradineref19_Check.calls k _ _ l0_1 zj _ ?s1 ?s2 A5.out).mono ?_); (case s1 => exact sC zf HB); (case s2 => exact zi.out); rintro e w' ⟨rfl, ⟨nd, rfl⟩⟩; (try first | exact ⟨rfl, _, World.drewN_drewN _ _ _⟩ | exact ⟨rfl, _, Eq.trans (World.drewN_drewN _ _ _) (congrArg (World.drewN _) (Nat.add_assoc _ _ _))⟩))))
  go_meet
  case rel => exact ⟨_, (decide (a0_0 ≥ a1)), (pF), H', ⟨by first | omega | exact Nat.le_refl _⟩, ⟨pK za.out⟩, ⟨qB1 HB zb⟩⟩
 case rest =>
  clear HC3
  obtain ⟨kq, x38_2, rfl, HA, HJ2, za, HB⟩ := hcut
  cases kq with
  | zero => exact absurd HA.out (by simp [gradineref22_Cells.j0])
  | succ kj2 =>
   have H := HA.out
   clear HA
   simp only [gradineref22_Cells.j0] at H
   by_cases c15 : x38_2 = true
   ·subst c15
    rw [if_pos rfl] at H
    obtain rfl := Option.some.inj H
    go_wp2
    repeat (go_quiet (fail); try go_wp2)
    go_ret
    exact ⟨_, pE, pN, qB1 HB zb⟩
   replace c15 := Bool.eq_false_iff.mpr c15
   subst c15
   rw [if_neg (show ¬ (false = true) by decide)] at H
   have H' := aM H
   clear H
   obtain ⟨hcz16_0, hcz16_1, hcz16_2, hfz16_0, hfz16_1, hfz16_2⟩ := blk3 za.out
   go_wp2
   repeat (go_quiet (fail); try go_wp2)
   go_loopg [42] kj2 (fun kq v42 w' => ∃ (x42_2 : Int), v42 = .int .i64 x42_2 ∧ Aside0 (gradineref22_Cells.l0 kq a1 (l0_1.length : Int) x42_2 a0_0 l0_1 l0_2 = some r) ∧ Aside0 (kq ≤ kj2) ∧ Aside0 (w'.heap[zh]? = some (.cells #[.int .i64 a0_0, (.slice A0_1 l0_1.length c0_1), (.slice A0_2 l0_2.length c0_2)] 24 (0, 0))) ∧ Aside0 (Below w.heap.size w w'))
   case atStart => exact ⟨(0), (pF), H', ⟨Nat.le_refl _⟩, ⟨pK za.out⟩, ⟨qB1 HB zb⟩⟩
   case round =>
    clear H'
    try clear c15
    try clear hcz16_0 hcz16_1 hcz16_2 hfz16_0 hfz16_1 hfz16_2
    obtain ⟨x42_2, rfl, HA, HK2, za, HB⟩ := hrel
    cases gk with
    | zero => exact absurd HA.out (by simp [gradineref22_Cells.l0])
    | succ k2 =>
     have H := HA.out
     clear HA
     simp only [gradineref22_Cells.l0] at H
     by_cases c17 : x42_2 < (l0_1.length : Int)
     ·rw [if_pos c17] at H
      have zz : decide (x42_2 < (l0_1.length : Int)) = true := decide_eq_true c17
      clear c17
      by_cases c18 : 0 ≤ x42_2
      rotate_left
      ·rw [if_neg c18] at H
       exact absurd H (by simp)
      rw [if_pos c18] at H
      have c18b0 : decide (0 ≤ x42_2) = true := decide_eq_true c18
      clear c18
      by_cases c19 : x42_2 < (l0_1.length : Int)
      rotate_left
      ·rw [if_neg c19] at H
       exact absurd H (by simp)
      rw [if_pos c19] at H
      have c19b0 : decide (x42_2 < (l0_1.length : Int)) = true := decide_eq_true c19
      clear c19
      by_cases c20 : (rd l0_1 x42_2) > 1
      rotate_left
      ·rw [if_neg c20] at H
       have c20b0 : decide (1 < (rd l0_1 x42_2)) = false := decide_eq_false c20
       clear c20
       have H' := aM H
       clear H
       obtain ⟨hcz27_0, hcz27_1, hcz27_2, hfz27_0, hfz27_1, hfz27_2⟩ := blk3 za.out
       have p269 : 0 ≤ (x42_2 : Int) := of_decide_eq_true pD
       have q269 : x42_2 < (l0_1.length : Int) := of_decide_eq_true pD
       obtain ⟨ad269, e269, hx269_0⟩ := Kd.at_int zf.out x42_2 p269 q269
       cases e269
       replace hx269_0 := (HB.out.cell (World.block_lt_of_cell? w _ hx269_0)).trans hx269_0
       replace p269 := eq_true p269
       replace q269 := eq_true q269
       go_wp2
       repeat (go_quiet (fail); try go_wp2)
       go_roundg k2
       case measure => have := HJ2.out; have := HK2.out; omega
       case rel => exact ⟨(wrap64 (x42_2 + 1)), (pF), H', ⟨by have := HJ2.out; have := HK2.out; omega⟩, ⟨pK za.out⟩, ⟨qB1 HB zb⟩⟩
      rw [if_pos c20] at H
      have c20b0 : decide (1 < (rd l0_1 x42_2)) = true := decide_eq_true c20
      clear c20
      by_cases c21 : x42_2 < (l0_2.length : Int)
      rotate_left
      ·rw [if_neg c21] at H
       exact absurd H (by simp)
      rw [if_pos c21] at H
      have c21b0 : decide (x42_2 < (l0_2.length : Int)) = true := decide_eq_true c21
      clear c21
      by_cases c22 : (rd l0_2 x42_2) ≥ a1
      ·rw [if_pos c22] at H
       have c22b0 : decide (a1 ≤ (rd l0_2 x42_2)) = true := decide_eq_true c22
       clear c22
       obtain rfl := Option.some.inj H
       obtain ⟨hcz23_0, hcz23_1, hcz23_2, hfz23_0, hfz23_1, hfz23_2⟩ := blk3 za.out
       have p269 : 0 ≤ (x42_2 : Int) := of_decide_eq_true pD
       have q269 : x42_2 < (l0_1.length : Int) := of_decide_eq_true pD
       obtain ⟨ad269, e269, hx269_0⟩ := Kd.at_int zf.out x42_2 p269 q269
       cases e269
       replace hx269_0 := (HB.out.cell (World.block_lt_of_cell? w _ hx269_0)).trans hx269_0
       replace p269 := eq_true p269
       replace q269 := eq_true q269
       have p270 : 0 ≤ (x42_2 : Int) := of_decide_eq_true pD
       have q270 : x42_2 < (l0_2.length : Int) := of_decide_eq_true pD
       obtain ⟨ad270, e270, hx270_0⟩ := Kd.at_int zo.out x42_2 p270 q270
       cases e270
       replace hx270_0 := (HB.out.cell (World.block_lt_of_cell? w _ hx270_0)).trans hx270_0
       replace p270 := eq_true p270
       replace q270 := eq_true q270
       go_wp2
       repeat (go_quiet (fail); try go_wp2)
       go_ret
       exact ⟨_, pE, pN, qB1 HB zb⟩
      rw [if_neg c22] at H
      have c22b0 : decide (a1 ≤ (rd l0_2 x42_2)) = false := decide_eq_false c22
      clear c22
      by_cases c24 : (rd l0_2 x42_2) ≤ (wrap64 (-a1))
      ·rw [if_pos c24] at H
       have c24b0 : decide ((rd l0_2 x42_2) ≤ (wrap64 (-a1))) = true := decide_eq_true c24
       clear c24
       obtain rfl := Option.some.inj H
       obtain ⟨hcz25_0, hcz25_1, hcz25_2, hfz25_0, hfz25_1, hfz25_2⟩ := blk3 za.out
       have p269 : 0 ≤ (x42_2 : Int) := of_decide_eq_true pD
       have q269 : x42_2 < (l0_1.length : Int) := of_decide_eq_true pD
       obtain ⟨ad269, e269, hx269_0⟩ := Kd.at_int zf.out x42_2 p269 q269
       cases e269
       replace hx269_0 := (HB.out.cell (World.block_lt_of_cell? w _ hx269_0)).trans hx269_0
       replace p269 := eq_true p269
       replace q269 := eq_true q269
       have p270 : 0 ≤ (x42_2 : Int) := of_decide_eq_true pD
       have q270 : x42_2 < (l0_2.length : Int) := of_decide_eq_true pD
       obtain ⟨ad270, e270, hx270_0⟩ := Kd.at_int zo.out x42_2 p270 q270
       cases e270
       replace hx270_0 := (HB.out.cell (World.block_lt_of_cell? w _ hx270_0)).trans hx270_0
       replace p270 := eq_true p270
       replace q270 := eq_true q270
       have p271 : 0 ≤ (x42_2 : Int) := of_decide_eq_true pD
       have q271 : x42_2 < (l0_2.length : Int) := of_decide_eq_true pD
       obtain ⟨ad271, e271, hx271_0⟩ := Kd.at_int zo.out x42_2 p271 q271
       obtain rfl : ad270 = ad271 := (by injection e271)
       replace hx271_0 := (HB.out.cell (World.block_lt_of_cell? w _ hx271_0)).trans hx271_0
       replace p271 := eq_true p271
       replace q271 := eq_true q271
       go_wp2
       repeat (go_quiet (fail); try go_wp2)
       go_ret
       exact ⟨_, pE, pN, qB1 HB zb⟩
      rw [if_neg c24] at H
      have c24b0 : decide ((rd l0_2 x42_2) ≤ (wrap64 (-a1))) = false := decide_eq_false c24
      clear c24
      have H' := aM H
      clear H
      obtain ⟨hcz26_0, hcz26_1, hcz26_2, hfz26_0, hfz26_1, hfz26_2⟩ := blk3 za.out
      have p269 : 0 ≤ (x42_2 : Int) := of_decide_eq_true pD
      have q269 : x42_2 < (l0_1.length : Int) := of_decide_eq_true pD
      obtain ⟨ad269, e269, hx269_0⟩ := Kd.at_int zf.out x42_2 p269 q269
      cases e269
      replace hx269_0 := (HB.out.cell (World.block_lt_of_cell? w _ hx269_0)).trans hx269_0
      replace p269 := eq_true p269
      replace q269 := eq_true q269
      have p270 : 0 ≤ (x42_2 : Int) := of_decide_eq_true pD
      have q270 : x42_2 < (l0_2.length : Int) := of_decide_eq_true pD
      obtain ⟨ad270, e270, hx270_0⟩ := Kd.at_int zo.out x42_2 p270 q270
      cases e270
      replace hx270_0 := (HB.out.cell (World.block_lt_of_cell? w _ hx270_0)).trans hx270_0
      replace p270 := eq_true p270
      replace q270 := eq_true q270
      have p271 : 0 ≤ (x42_2 : Int) := of_decide_eq_true pD
      have q271 : x42_2 < (l0_2.length : Int) := of_decide_eq_true pD
      obtain ⟨ad271, e271, hx271_0⟩ := Kd.at_int zo.out x42_2 p271 q271
      obtain rfl : ad270 = ad271 := (by injection e271)
      replace hx271_0 := (HB.out.cell (World.block_lt_of_cell? w _ hx271_0)).trans hx271_0
      replace p271 := eq_true p271
      replace q271 := eq_true q271
      go_wp2
      repeat (go_quiet (fail); try go_wp2)
      go_roundg k2
      case measure => have := HJ2.out; have := HK2.out; omega
      case rel => exact ⟨(wrap64 (x42_2 + 1)), (pF), H', ⟨by have := HJ2.out; have := HK2.out; omega⟩, ⟨pK za.out⟩, ⟨qB1 HB zb⟩⟩
     rw [if_neg c17] at H
     have zz : decide (x42_2 < (l0_1.length : Int)) = false := decide_eq_false c17
     clear c17
     replace H := Option.bind_eq_some_iff.mp H
     obtain ⟨zc, z2, H⟩ := H
     try dsimp only at H
     have A28 := aM z2
     clear z2
     have H' := aM H
     clear H
     obtain ⟨hcz29_0, hcz29_1, hcz29_2, hfz29_0, hfz29_1, hfz29_2⟩ := blk3 za.out
     go_wp2_with (first | (go_at_call 38; (with_reducible refine (gradineref20_All.calls k2 _ _ l0_1 zc _ ?s1 ?s2 A28.out).mono ?_); (case s1 => exact sC zf HB); (case s2 => exact zi.out); rintro e w30 ⟨z3, rfl, ho0, hb⟩; have zp := aM (Kd.N_lower (Kd.N_mono (ok' := fun k_ => k_ ≠ zh) ho0 (fun k_ hk_ => (Kd.freshB (g := zh) (pK za.out) k_ hk_))) (below_size (qB1 HB zb))); replace za := bK za hb; replace HB := bS (qB1 HB zb) hb; (try clear hb); (try clear hk); (try clear hi); (try clear ho0); obtain ⟨z1, zy, zt⟩ := Kd.N_slice zp.out; subst zt))
     repeat (go_quiet (first | (go_at_call 38; (with_reducible refine (gradineref20_All.calls k2 _ _ l0_1 zc _ ?s1 ?s2 A28.out).mono ?_); (case s1 => exact sC zf HB); (case s2 => exact zi.out); rintro e w30 ⟨z3, rfl, ho0, hb⟩; have zp := aM (Kd.N_lower (Kd.N_mono (ok' := fun k_ => k_ ≠ zh) ho0 (fun k_ hk_ => (Kd.freshB (g := zh) (pK za.out) k_ hk_))) (below_size (qB1 HB zb))); replace za := bK za hb; replace HB := bS (qB1 HB zb) hb; (try clear hb); (try clear hk); (try clear hi); (try clear ho0); obtain ⟨z1, zy, zt⟩ := Kd.N_slice zp.out; subst zt)); try go_wp2_with (first | (go_at_call 38; (with_reducible refine (gradineref20_All.calls k2 _ _ l0_1 zc _ ?s1 ?s2 A28.out).mono ?_); (case s1 => exact sC zf HB); (case s2 => exact zi.out); rintro e w30 ⟨z3, rfl, ho0, hb⟩; have zp := aM (Kd.N_lower (Kd.N_mono (ok' := fun k_ => k_ ≠ zh) ho0 (fun k_ hk_ => (Kd.freshB (g := zh) (pK za.out) k_ hk_))) (below_size (qB1 HB zb))); replace za := bK za hb; replace HB := bS (qB1 HB zb) hb; (try clear hb); (try clear hk); (try clear hi); (try clear ho0); obtain ⟨z1, zy, zt⟩ := Kd.N_slice zp.out; subst zt)))
     go_loopg [7, 76] k2 (fun kq v7 v76 w' => ∃ (x7_3 : List Int) (x76_3 : Int), v76 = .int .i64 x76_3 ∧ Aside0 (gradineref22_Cells.l1 kq a1 zc x7_3 (zc.length : Int) x76_3 a0_0 l0_1 l0_2 = some r) ∧ Aside0 (kq ≤ k2) ∧ Aside0 (Kd.N (Kd.slice 3 (Kd.int .i64)) 22 w' w.heap.size (fun k_ => some k_ ≠ (v7 : Value).ownBlock ∧ k_ ≠ zh) (.slice z1 zc.length zy) zc) ∧ Aside0 (Kd.R (Kd.int .i64) 3 w' w.heap.size (fun _ => True) v7 x7_3) ∧ Aside0 (w'.heap[zh]? = some (.cells #[.int .i64 a0_0, (.slice A0_1 l0_1.length c0_1), (.slice A0_2 l0_2.length c0_2)] 24 (0, 0))) ∧ Aside0 (Below w.heap.size w w'))
     case atStart => exact ⟨(([] : List Int)), (0), (pF), H', ⟨Nat.le_refl _⟩, ⟨by (with_reducible repeat (first | apply Kd.N_alloc | apply Kd.N_drewN | apply Kd.N_drew)); exact Kd.N_mono zp.out (fun _ hk => ⟨(by simp [Value.ownBlock]), hk⟩)⟩, ⟨pN⟩, ⟨pK za.out⟩, ⟨qB1 HB zb⟩⟩
     case round =>
      clear H'
      try clear zz
      try clear hcz29_0 hcz29_1 hcz29_2 hfz29_0 hfz29_1 hfz29_2
      obtain ⟨x7_3, x76_3, rfl, HA, HK3, zk, zm, za, HB⟩ := hrel
      cases gk with
      | zero => exact absurd HA.out (by simp [gradineref22_Cells.l1])
      | succ k3 =>
       have H := HA.out
       clear HA
       simp only [gradineref22_Cells.l1] at H
       by_cases c32 : x76_3 < (zc.length : Int)
       rotate_left
       ·rw [if_neg c32] at H
        have z0 : decide (x76_3 < (zc.length : Int)) = false := decide_eq_false c32
        clear c32
        obtain rfl := Option.some.inj H
        go_wp2
        repeat (go_quiet (fail); try go_wp2)
        go_ret
        exact ⟨_, pE, pR zm.out, qB1 HB zb⟩

       rw [if_pos c32] at H
       have z0 : decide (x76_3 < (zc.length : Int)) = true := decide_eq_true c32
       clear c32
       by_cases c33 : 0 ≤ x76_3
       rotate_left
       ·rw [if_neg c33] at H
        exact absurd H (by simp)
       rw [if_pos c33] at H
       have c33b0 : decide (0 ≤ x76_3) = true := decide_eq_true c33
       clear c33
       by_cases c34 : x76_3 < (zc.length : Int)
       rotate_left
       ·rw [if_neg c34] at H
        exact absurd H (by simp)
       rw [if_pos c34] at H
       have c34b0 : decide (x76_3 < (zc.length : Int)) = true := decide_eq_true c34
       clear c34
       have H' := aM H
       clear H
       obtain ⟨hcz35_0, hcz35_1, hcz35_2, hfz35_0, hfz35_1, hfz35_2⟩ := blk3 za.out
       have p275 : 0 ≤ (x76_3 : Int) := of_decide_eq_true pD
       have q275 : x76_3 < (zc.length : Int) := of_decide_eq_true pD
       obtain ⟨ad275, A275_0, c275_0, e275, hx275_0, hl275_0, hi275_0⟩ := at_L1 (Kd.N_reads' zk.out).2.2 x76_3 p275 q275
       cases e275
       obtain ⟨ce275, hce275, hMe275, hcc275⟩ := Kd.N_get zk.out [] x76_3 p275 (by first | exact q275 | exact of_decide_eq_true pD | (have e_ := (Kd.N_reads' zk.out).1; omega))
       obtain ⟨ua275_0, uc275_0, rfl, ul275_0, ge275_0⟩ := Kd.FK_slice_open hMe275
       have hv275_0 := hcc275 0 _ rfl
       rw [Nat.add_zero, show ((Kd.slice 3 (Kd.int .i64))).sz = 1 from rfl, Nat.mul_one] at hv275_0
       replace hv275_0 := Option.some.inj (hv275_0.symm.trans hx275_0)
       injection hv275_0 with hva_ hvn_ hvc_
       rw [hva_] at ge275_0
       rw [hvc_] at ul275_0
       have HL275_0 := aM (show Kd.V (Kd.int .i64) 3 _ w.heap.size _ _ (rd_L1 zc x76_3) from Kd.V_mk ul275_0 ge275_0)
       clear hva_ hvn_ hvc_ ge275_0 ul275_0
       clear hcc275 hce275
       have zl := aM hi275_0
       have HC275_0 := aM hl275_0
       clear hi275_0 hl275_0
       replace p275 := eq_true p275
       replace q275 := eq_true q275
       go_wp2
       repeat (go_quiet (fail); try go_wp2)
       go_loopg [9, 86] k3 (fun kq v9 v86 w' => ∃ (x9_4 : Int) (x86_4 : Int), v9 = .int .i64 x9_4 ∧ v86 = .int .i64 x86_4 ∧ Aside0 (gradineref22_Cells.l2 kq a1 zc x7_3 x76_3 x9_4 (zc.length : Int) x76_3 ((rd_L1 zc x76_3).length : Int) x86_4 a0_0 l0_1 l0_2 = some r) ∧ Aside0 (kq ≤ k3) ∧ Aside0 (Kd.N (Kd.slice 3 (Kd.int .i64)) 22 w' w.heap.size (fun k_ => some k_ ≠ (u7 : Value).ownBlock ∧ k_ ≠ zh) (.slice (some ad275) zc.length zy) zc) ∧ Aside0 (Kd.R (Kd.int .i64) 3 w' w.heap.size (fun _ => True) u7 x7_3) ∧ Aside0 (w'.heap[zh]? = some (.cells #[.int .i64 a0_0, (.slice A0_1 l0_1.length c0_1), (.slice A0_2 l0_2.length c0_2)] 24 (0, 0))) ∧ Aside0 (Kd.C (Kd.int .i64) w' A275_0 (rd_L1 zc x76_3).length (rd_L1 zc x76_3)) ∧ Aside0 (Below w.heap.size w w'))
       case atStart => exact ⟨(a0_0), (0), (pF), (pF), H', ⟨Nat.le_refl _⟩, ⟨by (with_reducible repeat (first | apply Kd.N_alloc | apply Kd.N_drewN | apply Kd.N_drew)); exact zk.out⟩, ⟨pR zm.out⟩, ⟨pK za.out⟩, ⟨by repeat (first | (with_reducible exact zl.out) | (with_reducible refine Kd.C_alloc ?_ _) | (with_reducible refine Kd.C_drewN ?_ _) | (with_reducible refine Kd.C_drew ?_) | exact zl.out)⟩, ⟨qB1 HB zb⟩⟩
       case round =>
        clear H'
        try clear z0
        try clear c33b0
        try clear c34b0
        try clear hcz35_0 hcz35_1 hcz35_2 hfz35_0 hfz35_1 hfz35_2
        try clear hx275_0
        try clear p275
        try clear q275
        obtain ⟨x9_4, x86_4, rfl, rfl, HA, HK4, zk, zm, za, zl, HB⟩ := hrel
        cases gk with
        | zero => exact absurd HA.out (by simp [gradineref22_Cells.l2])
        | succ k4 =>
         have H := HA.out
         clear HA
         simp only [gradineref22_Cells.l2] at H
         by_cases c36 : x86_4 < ((rd_L1 zc x76_3).length : Int)
         rotate_left
         ·rw [if_neg c36] at H
          have c36b0 : decide (x86_4 < ((rd_L1 zc x76_3).length : Int)) = false := decide_eq_false c36
          clear c36
          by_cases c44 : x9_4 < 0
          ·rw [if_pos c44] at H
           have c44b0 : decide (x9_4 < 0) = true := decide_eq_true c44
           clear c44
           obtain rfl := Option.some.inj H
           go_wp2
           repeat (go_quiet (fail); try go_wp2)
           go_ret
           exact ⟨_, pE, pN, qB1 HB zb⟩
          rw [if_neg c44] at H
          have c44b0 : decide (x9_4 < 0) = false := decide_eq_false c44
          clear c44
          by_cases c45 : x9_4 ≥ a1
          ·rw [if_pos c45] at H
           have c45b0 : decide (a1 ≤ x9_4) = true := decide_eq_true c45
           clear c45
           obtain rfl := Option.some.inj H
           go_wp2
           repeat (go_quiet (fail); try go_wp2)
           go_ret
           exact ⟨_, pE, pN, qB1 HB zb⟩
          rw [if_neg c45] at H
          have c45b0 : decide (a1 ≤ x9_4) = false := decide_eq_false c45
          clear c45
          by_cases c46 : x7_3.length < 17592186044416
          rotate_left
          ·rw [if_neg c46] at H
           exact absurd H (by simp)
          rw [if_pos c46] at H
          have zu := aM c46
          clear c46
          obtain ⟨z4, zv⟩ : ∃ y_ : List Int, y_ = (x7_3 ++ [x9_4]) := ⟨_, rfl⟩
          replace H : (gradineref22_Cells.l1 k4 a1 zc z4 (zc.length : Int) (wrap64 (x76_3 + 1)) a0_0 l0_1 l0_2) = some r := pH zv H
          have zw := aM zv
          clear zv
          have H' := aM H
          clear H
          go_wp2_with (first | ((with_reducible refine gate_builtin (b := .append) (xs := #[.tmp 120, .tmp 122]) rfl ?_); (try (refine gate_guard (by rfl) ?_; dsimp only)); at_builtin; refine Kd.R_append (Kd.int .i64) (w0 := w) w.heap.size rfl (.tmp 120) (.tmp 122) 22 3 (.int .i64 0) 8 rfl Try.underlying22 info3 rfl (by decide) (by omega) u7 x7_3 x9_4 [.int .i64 x9_4] (fun _ => True) (fun _ => False) rfl rfl ?aP (fun _ hk => hk.elim) ?aF ?aO ?aB ?aS ?aL ?_; (case aP => exact rfl); (case aB => exact (qB1 HB zb)); (case aF => exact (fun _ _ => trivial)); (case aO => exact (pR zm.out)); (case aS => exact (below_size (qB1 HB zb))); (case aL => have := zu.out; omega); intro z5 w47 ho hb hg hat; rw [← zw.out] at ho; replace zk := aM (Kd.N_afterv (ok := (fun k_ => k_ ≠ zh)) (by (with_reducible repeat (first | apply Kd.N_alloc | apply Kd.N_drewN | apply Kd.N_drew)); exact Kd.N_mono zk.out (fun _ hk => ⟨hk.2, hk.1⟩)) hg hat); replace za := aM (blk_grown (g := zh) (pK za.out) hg (Kd.R_ne zm.out za.out (by decide))); replace HB := aM (hb); have zx := aM (ho); clear zm; clear ho hb hg hat))
          repeat (go_quiet (first | ((with_reducible refine gate_builtin (b := .append) (xs := #[.tmp 120, .tmp 122]) rfl ?_); (try (refine gate_guard (by rfl) ?_; dsimp only)); at_builtin; refine Kd.R_append (Kd.int .i64) (w0 := w) w.heap.size rfl (.tmp 120) (.tmp 122) 22 3 (.int .i64 0) 8 rfl Try.underlying22 info3 rfl (by decide) (by omega) u7 x7_3 x9_4 [.int .i64 x9_4] (fun _ => True) (fun _ => False) rfl rfl ?aP (fun _ hk => hk.elim) ?aF ?aO ?aB ?aS ?aL ?_; (case aP => exact rfl); (case aB => exact (qB1 HB zb)); (case aF => exact (fun _ _ => trivial)); (case aO => exact (pR zm.out)); (case aS => exact (below_size (qB1 HB zb))); (case aL => have := zu.out; omega); intro z5 w47 ho hb hg hat; rw [← zw.out] at ho; replace zk := aM (Kd.N_afterv (ok := (fun k_ => k_ ≠ zh)) (by (with_reducible repeat (first | apply Kd.N_alloc | apply Kd.N_drewN | apply Kd.N_drew)); exact Kd.N_mono zk.out (fun _ hk => ⟨hk.2, hk.1⟩)) hg hat); replace za := aM (blk_grown (g := zh) (pK za.out) hg (Kd.R_ne zm.out za.out (by decide))); replace HB := aM (hb); have zx := aM (ho); clear zm; clear ho hb hg hat)); try go_wp2_with (first | ((with_reducible refine gate_builtin (b := .append) (xs := #[.tmp 120, .tmp 122]) rfl ?_); (try (refine gate_guard (by rfl) ?_; dsimp only)); at_builtin; refine Kd.R_append (Kd.int .i64) (w0 := w) w.heap.size rfl (.tmp 120) (.tmp 122) 22 3 (.int .i64 0) 8 rfl Try.underlying22 info3 rfl (by decide) (by omega) u7 x7_3 x9_4 [.int .i64 x9_4] (fun _ => True) (fun _ => False) rfl rfl ?aP (fun _ hk => hk.elim) ?aF ?aO ?aB ?aS ?aL ?_; (case aP => exact rfl); (case aB => exact (qB1 HB zb)); (case aF => exact (fun _ _ => trivial)); (case aO => exact (pR zm.out)); (case aS => exact (below_size (qB1 HB zb))); (case aL => have := zu.out; omega); intro z5 w47 ho hb hg hat; rw [← zw.out] at ho; replace zk := aM (Kd.N_afterv (ok := (fun k_ => k_ ≠ zh)) (by (with_reducible repeat (first | apply Kd.N_alloc | apply Kd.N_drewN | apply Kd.N_drew)); exact Kd.N_mono zk.out (fun _ hk => ⟨hk.2, hk.1⟩)) hg hat); replace za := aM (blk_grown (g := zh) (pK za.out) hg (Kd.R_ne zm.out za.out (by decide))); replace HB := aM (hb); have zx := aM (ho); clear zm; clear ho hb hg hat)))
          go_roundg k4
          case measure => have := HJ2.out; have := HK2.out; have := HK3.out; have := HK4.out; omega
          case rel => exact ⟨(z4), (wrap64 (x76_3 + 1)), (pF), H', ⟨by have := HJ2.out; have := HK2.out; have := HK3.out; have := HK4.out; omega⟩, ⟨by (with_reducible repeat (first | apply Kd.N_alloc | apply Kd.N_drewN | apply Kd.N_drew)); exact Kd.N_mono zk.out (fun _ hk => ⟨hk.2, hk.1⟩)⟩, ⟨pR zx.out⟩, ⟨pK za.out⟩, ⟨qB1 HB zb⟩⟩
         rw [if_pos c36] at H
         have c36b0 : decide (x86_4 < ((rd_L1 zc x76_3).length : Int)) = true := decide_eq_true c36
         clear c36
         by_cases c37 : 0 ≤ x76_3
         rotate_left
         ·rw [if_neg c37] at H
          exact absurd H (by simp)
         rw [if_pos c37] at H
         have c37b0 : decide (0 ≤ x76_3) = true := decide_eq_true c37
         clear c37
         by_cases c38 : x76_3 < (zc.length : Int)
         rotate_left
         ·rw [if_neg c38] at H
          exact absurd H (by simp)
         rw [if_pos c38] at H
         have c38b0 : decide (x76_3 < (zc.length : Int)) = true := decide_eq_true c38
         clear c38
         by_cases c39 : 0 ≤ x86_4
         rotate_left
         ·rw [if_neg c39] at H
          exact absurd H (by simp)
         rw [if_pos c39] at H
         have c39b0 : decide (0 ≤ x86_4) = true := decide_eq_true c39
         clear c39
         by_cases c40 : x86_4 < ((rd_L1 zc x76_3).length : Int)
         rotate_left
         ·rw [if_neg c40] at H
          exact absurd H (by simp)
         rw [if_pos c40] at H
         have c40b0 : decide (x86_4 < ((rd_L1 zc x76_3).length : Int)) = true := decide_eq_true c40
         clear c40
         by_cases c41 : (rd (rd_L1 zc x76_3) x86_4) > 0
         rotate_left
         ·rw [if_neg c41] at H
          have c41b0 : decide (0 < (rd (rd_L1 zc x76_3) x86_4)) = false := decide_eq_false c41
          clear c41
          have H' := aM H
          clear H
          have p276 : 0 ≤ (x76_3 : Int) := of_decide_eq_true pD
          have q276 : x76_3 < (zc.length : Int) := of_decide_eq_true pD
          obtain ⟨ad276, A276_0, c276_0, e276, hx276_0, hl276_0, hi276_0⟩ := at_L1 (Kd.N_reads' zk.out).2.2 x76_3 p276 q276
          obtain rfl : ad275 = ad276 := (by injection e276)
          obtain ⟨ce276, hce276, hMe276, hcc276⟩ := Kd.N_get zk.out [] x76_3 p276 (by first | exact q276 | exact of_decide_eq_true pD | (have e_ := (Kd.N_reads' zk.out).1; omega))
          obtain ⟨ua276_0, uc276_0, rfl, ul276_0, ge276_0⟩ := Kd.FK_slice_open hMe276
          have hv276_0 := hcc276 0 _ rfl
          rw [Nat.add_zero, show ((Kd.slice 3 (Kd.int .i64))).sz = 1 from rfl, Nat.mul_one] at hv276_0
          replace hv276_0 := Option.some.inj (hv276_0.symm.trans hx276_0)
          injection hv276_0 with hva_ hvn_ hvc_
          rw [hva_] at ge276_0
          rw [hvc_] at ul276_0
          have HL276_0 := aM (show Kd.V (Kd.int .i64) 3 _ w.heap.size _ _ (rd_L1 zc x76_3) from Kd.V_mk ul276_0 ge276_0)
          clear hva_ hvn_ hvc_ ge276_0 ul276_0
          clear hcc276 hce276
          have zn := aM hi276_0
          have HC276_0 := aM hl276_0
          clear hi276_0 hl276_0
          replace p276 := eq_true p276
          replace q276 := eq_true q276
          have p277 : 0 ≤ (x86_4 : Int) := of_decide_eq_true pD
          have q277 : x86_4 < ((rd_L1 zc x76_3).length : Int) := of_decide_eq_true pD
          obtain ⟨ad277, e277, hx277_0⟩ := Kd.at_int (by repeat (first | (with_reducible exact zn.out) | (with_reducible refine Kd.C_alloc ?_ _) | (with_reducible refine Kd.C_drewN ?_ _) | (with_reducible refine Kd.C_drew ?_) | exact zn.out)) x86_4 p277 q277
          cases e277
          replace p277 := eq_true p277
          replace q277 := eq_true q277
          go_wp2
          repeat (go_quiet (fail); try go_wp2)
          go_roundg k4
          case measure => have := HJ2.out; have := HK2.out; have := HK3.out; have := HK4.out; omega
          case rel => exact ⟨(x9_4), (wrap64 (x86_4 + 1)), (pF), (pF), H', ⟨by have := HJ2.out; have := HK2.out; have := HK3.out; have := HK4.out; omega⟩, ⟨by (with_reducible repeat (first | apply Kd.N_alloc | apply Kd.N_drewN | apply Kd.N_drew)); exact zk.out⟩, ⟨pR zm.out⟩, ⟨pK za.out⟩, ⟨by repeat (first | (with_reducible exact zl.out) | (with_reducible refine Kd.C_alloc ?_ _) | (with_reducible refine Kd.C_drewN ?_ _) | (with_reducible refine Kd.C_drew ?_) | exact zl.out)⟩, ⟨qB1 HB zb⟩⟩
         rw [if_pos c41] at H
         have c41b0 : decide (0 < (rd (rd_L1 zc x76_3) x86_4)) = true := decide_eq_true c41
         clear c41
         by_cases c42 : x86_4 < (l0_2.length : Int)
         rotate_left
         ·rw [if_neg c42] at H
          exact absurd H (by simp)
         rw [if_pos c42] at H
         have c42b0 : decide (x86_4 < (l0_2.length : Int)) = true := decide_eq_true c42
         clear c42
         have H' := aM H
         clear H
         have p276 : 0 ≤ (x76_3 : Int) := of_decide_eq_true pD
         have q276 : x76_3 < (zc.length : Int) := of_decide_eq_true pD
         obtain ⟨ad276, A276_0, c276_0, e276, hx276_0, hl276_0, hi276_0⟩ := at_L1 (Kd.N_reads' zk.out).2.2 x76_3 p276 q276
         obtain rfl : ad275 = ad276 := (by injection e276)
         obtain ⟨ce276, hce276, hMe276, hcc276⟩ := Kd.N_get zk.out [] x76_3 p276 (by first | exact q276 | exact of_decide_eq_true pD | (have e_ := (Kd.N_reads' zk.out).1; omega))
         obtain ⟨ua276_0, uc276_0, rfl, ul276_0, ge276_0⟩ := Kd.FK_slice_open hMe276
         have hv276_0 := hcc276 0 _ rfl
         rw [Nat.add_zero, show ((Kd.slice 3 (Kd.int .i64))).sz = 1 from rfl, Nat.mul_one] at hv276_0
         replace hv276_0 := Option.some.inj (hv276_0.symm.trans hx276_0)
         injection hv276_0 with hva_ hvn_ hvc_
         rw [hva_] at ge276_0
         rw [hvc_] at ul276_0
         have HL276_0 := aM (show Kd.V (Kd.int .i64) 3 _ w.heap.size _ _ (rd_L1 zc x76_3) from Kd.V_mk ul276_0 ge276_0)
         clear hva_ hvn_ hvc_ ge276_0 ul276_0
         clear hcc276 hce276
         have zn := aM hi276_0
         have HC276_0 := aM hl276_0
         clear hi276_0 hl276_0
         replace p276 := eq_true p276
         replace q276 := eq_true q276
         have p277 : 0 ≤ (x86_4 : Int) := of_decide_eq_true pD
         have q277 : x86_4 < ((rd_L1 zc x76_3).length : Int) := of_decide_eq_true pD
         obtain ⟨ad277, e277, hx277_0⟩ := Kd.at_int (by repeat (first | (with_reducible exact zn.out) | (with_reducible refine Kd.C_alloc ?_ _) | (with_reducible refine Kd.C_drewN ?_ _) | (with_reducible refine Kd.C_drew ?_) | exact zn.out)) x86_4 p277 q277
         cases e277
         replace p277 := eq_true p277
         replace q277 := eq_true q277
         have p278 : 0 ≤ (x76_3 : Int) := of_decide_eq_true pD
         have q278 : x76_3 < (zc.length : Int) := of_decide_eq_true pD
         obtain ⟨ad278, A278_0, c278_0, e278, hx278_0, hl278_0, hi278_0⟩ := at_L1 (Kd.N_reads' zk.out).2.2 x76_3 p278 q278
         obtain rfl : ad275 = ad278 := (by injection e278)
         obtain ⟨ce278, hce278, hMe278, hcc278⟩ := Kd.N_get zk.out [] x76_3 p278 (by first | exact q278 | exact of_decide_eq_true pD | (have e_ := (Kd.N_reads' zk.out).1; omega))
         obtain ⟨ua278_0, uc278_0, rfl, ul278_0, ge278_0⟩ := Kd.FK_slice_open hMe278
         have hv278_0 := hcc278 0 _ rfl
         rw [Nat.add_zero, show ((Kd.slice 3 (Kd.int .i64))).sz = 1 from rfl, Nat.mul_one] at hv278_0
         replace hv278_0 := Option.some.inj (hv278_0.symm.trans hx278_0)
         injection hv278_0 with hva_ hvn_ hvc_
         rw [hva_] at ge278_0
         rw [hvc_] at ul278_0
         have HL278_0 := aM (show Kd.V (Kd.int .i64) 3 _ w.heap.size _ _ (rd_L1 zc x76_3) from Kd.V_mk ul278_0 ge278_0)
         clear hva_ hvn_ hvc_ ge278_0 ul278_0
         clear hcc278 hce278
         have zr := aM hi278_0
         have HC278_0 := aM hl278_0
         clear hi278_0 hl278_0
         replace p278 := eq_true p278
         replace q278 := eq_true q278
         have ea_ := Option.some.inj (hx276_0.symm.trans hx278_0)
         injection ea_ with ea_ en_ ec_
         subst ea_
         subst ec_
         clear en_
         have p279 : 0 ≤ (x86_4 : Int) := of_decide_eq_true pD
         have q279 : x86_4 < ((rd_L1 zc x76_3).length : Int) := of_decide_eq_true pD
         obtain ⟨ad279, e279, hx279_0⟩ := Kd.at_int (by repeat (first | (with_reducible exact zr.out) | (with_reducible refine Kd.C_alloc ?_ _) | (with_reducible refine Kd.C_drewN ?_ _) | (with_reducible refine Kd.C_drew ?_) | exact zr.out)) x86_4 p279 q279
         cases e279
         replace p279 := eq_true p279
         replace q279 := eq_true q279
         obtain ⟨hcz43_0, hcz43_1, hcz43_2, hfz43_0, hfz43_1, hfz43_2⟩ := blk3 za.out
         have p280 : 0 ≤ (x86_4 : Int) := of_decide_eq_true pD
         have q280 : x86_4 < (l0_2.length : Int) := of_decide_eq_true pD
         obtain ⟨ad280, e280, hx280_0⟩ := Kd.at_int zo.out x86_4 p280 q280
         cases e280
         replace hx280_0 := (HB.out.cell (World.block_lt_of_cell? w _ hx280_0)).trans hx280_0
         replace p280 := eq_true p280
         replace q280 := eq_true q280
         go_wp2
         repeat (go_quiet (fail); try go_wp2)
         go_roundg k4
         case measure => have := HJ2.out; have := HK2.out; have := HK3.out; have := HK4.out; omega
         case rel => exact ⟨(wrap64 (x9_4 + (wrap64 ((rd (rd_L1 zc x76_3) x86_4) * (rd l0_2 x86_4))))), (wrap64 (x86_4 + 1)), (pF), (pF), H', ⟨by have := HJ2.out; have := HK2.out; have := HK3.out; have := HK4.out; omega⟩, ⟨by (with_reducible repeat (first | apply Kd.N_alloc | apply Kd.N_drewN | apply Kd.N_drew)); exact zk.out⟩, ⟨pR zm.out⟩, ⟨pK za.out⟩, ⟨by repeat (first | (with_reducible exact zl.out) | (with_reducible refine Kd.C_alloc ?_ _) | (with_reducible refine Kd.C_drewN ?_ _) | (with_reducible refine Kd.C_drew ?_) | exact zl.out)⟩, ⟨qB1 HB zb⟩⟩
end Go.Proofs.Ytjbpekblcecneaa.Q
