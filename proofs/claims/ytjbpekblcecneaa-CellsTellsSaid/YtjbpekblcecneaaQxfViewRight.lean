-- By wip/gprint.py (this session's), out of the kit's print.py.
import Derived.Test.YtjbpekblcecneaaQx0
import Derived.Test.YtjbpekblcecneaaQxfShapeCheck
import Derived.Test.YtjbpekblcecneaaQxfViewReach
namespace Go.Proofs.Ytjbpekblcecneaa.Q
open Go.RowKit Go.Proofs.YtjbpekblcecneaaW.PrintWords Go.Proofs.YtjbpekblcecneaaW.PrintLast Go.Proofs.YtjbpekblcecneaaW.PrintMore
attribute [local go_sem] max2_int min2_int max_two min_two max_three min_three max_four min_four   -- for this text's walks alone
set_option linter.unusedVariables false
set_option linter.unusedSimpArgs false

/-! ### view_Right: function 12 -/
mutual
def view_Right.j0 : Nat → Int → Bool → Int → List Int → List Int → Option (Bool)
 | 0, _, _, _, _, _ => none
 | k + 1, x1, x38, zf, zg, zh => if x38 = true then (some false) else (view_Right.l0 k x1 zf zf zg (zg.length : Int) 0 zf zg zh)
def view_Right.l0 : Nat → Int → Int → Int → List Int → Int → Int → Int → List Int → List Int → Option (Bool)
 | 0, _, _, _, _, _, _, _, _, _ => none
 | k + 1, x1, x5, x6, x44, x45, x46, zf, zg, zh => if x46 < x45 then (if 0 ≤ x46 then (if x46 < (x44.length : Int) then (if x46 < (zh.length : Int) then ((view_reach.f (rd x44 x46) (rd zh x46) x1).bind fun bt106 => (if bt106.2 = true then (view_Right.l0 k x1 (wrap64 (x5 + (mn bt106.1 0))) (wrap64 (x6 + (mx bt106.1 0))) x44 x45 (wrap64 (x46 + 1)) zf zg zh) else (some false))) else (none)) else (none)) else (none)) else (if x5 ≥ 0 then (some (decide (x6 < x1))) else (some false))
end
def view_Right.f (k : Nat) (a0_0 : Int) (l0_1 : List Int) (l0_2 : List Int) (a1 : Int) : Option (Bool) := (shape_Check.f l0_1).bind fun zc => (if zc = 0 then (if (l0_2.length : Int) = (l0_1.length : Int) then (if a1 > 64 then (view_Right.j0 k a1 true a0_0 l0_1 l0_2) else (if a0_0 < 0 then (view_Right.j0 k a1 true a0_0 l0_1 l0_2) else (view_Right.j0 k a1 (decide (a0_0 ≥ a1)) a0_0 l0_1 l0_2))) else (view_Right.j0 k a1 true a0_0 l0_1 l0_2)) else (view_Right.j0 k a1 true a0_0 l0_1 l0_2))
set_option maxHeartbeats 8000000 in
set_option maxRecDepth 100000 in
theorem view_Right.calls (k : Nat) (a0_0 : Int) (A0_1 : Option Addr) (c0_1 : Nat) (l0_1 : List Int) (A0_2 : Option Addr) (c0_2 : Nat) (l0_2 : List Int) (a1 : Int) (r : Bool) (w : World) (hr0_1 : Kd.C (Kd.int .i64) w A0_1 l0_1.length l0_1) (hc0_1 : l0_1.length ≤ c0_1) (hr0_2 : Kd.C (Kd.int .i64) w A0_2 l0_2.length l0_2) (hc0_2 : l0_2.length ≤ c0_2) (h : view_Right.f k a0_0 l0_1 l0_2 a1 = some r) :
  Calls Try.prog 12 #[.agg #[.int .i64 a0_0, .slice A0_1 l0_1.length c0_1, .slice A0_2 l0_2.length c0_2], .int .i64 a1] w fun e w' => e = .returned (.bool r) ∧ Below w.heap.size w w' := by
 have hu24 := Try.underlying24
 have zb := aM hr0_1
 have zd := aM hc0_1
 clear hr0_1 hc0_1
 have zm := aM hr0_2
 have HC0_2 := aM hc0_2
 clear hr0_2 hc0_2
 have HB := aM (Below.refl w.heap.size w)
 have H : ((shape_Check.f l0_1).bind fun zc => (if zc = 0 then (if (l0_2.length : Int) = (l0_1.length : Int) then (if a1 > 64 then (view_Right.j0 k a1 true a0_0 l0_1 l0_2) else (if a0_0 < 0 then (view_Right.j0 k a1 true a0_0 l0_1 l0_2) else (view_Right.j0 k a1 (decide (a0_0 ≥ a1)) a0_0 l0_1 l0_2))) else (view_Right.j0 k a1 true a0_0 l0_1 l0_2)) else (view_Right.j0 k a1 true a0_0 l0_1 l0_2))) = some r := h
 clear h
 have HC3 := aM H
 clear H
 go_enter Try.func12, Try.ntmps12
 go_upto_region 1 with (first | ((with_reducible refine gate_dst (N := 2) rfl ?_); (try (refine gate_guard (by rfl) ?_; dsimp only)); refine box_event ?hg (N := 2) ?hd (cs := #[.int .i64 a0_0, .slice A0_1 l0_1.length c0_1, .slice A0_2 l0_2.length c0_2]) (t := 24) ?hr ?_; (case hd => rfl); (case hg => rfl); (case hr => first | (go_simp; done) | (go_simp; rfl)); intro zk hg w4 hbox hb; have za := aM (hbox); have zj := gE (w := w) hg (qB HB); have ze := zj; replace HB := bS (qB HB) hb; clear hb hbox hg))
 repeat (go_quiet (first | ((with_reducible refine gate_dst (N := 2) rfl ?_); (try (refine gate_guard (by rfl) ?_; dsimp only)); refine box_event ?hg (N := 2) ?hd (cs := #[.int .i64 a0_0, .slice A0_1 l0_1.length c0_1, .slice A0_2 l0_2.length c0_2]) (t := 24) ?hr ?_; (case hd => rfl); (case hg => rfl); (case hr => first | (go_simp; done) | (go_simp; rfl)); intro zk hg w4 hbox hb; have za := aM (hbox); have zj := gE (w := w) hg (qB HB); have ze := zj; replace HB := bS (qB HB) hb; clear hb hbox hg)); go_upto_region 1 with (first | ((with_reducible refine gate_dst (N := 2) rfl ?_); (try (refine gate_guard (by rfl) ?_; dsimp only)); refine box_event ?hg (N := 2) ?hd (cs := #[.int .i64 a0_0, .slice A0_1 l0_1.length c0_1, .slice A0_2 l0_2.length c0_2]) (t := 24) ?hr ?_; (case hd => rfl); (case hg => rfl); (case hr => first | (go_simp; done) | (go_simp; rfl)); intro zk hg w4 hbox hb; have za := aM (hbox); have zj := gE (w := w) hg (qB HB); have ze := zj; replace HB := bS (qB HB) hb; clear hb hbox hg)))
 (try simp only [Act.put, sP])
 go_cut [38] (fun v38 wc => ∃ (kq : Nat) (x38_2 : Bool), v38 = .bool x38_2 ∧ Aside0 (view_Right.j0 kq a1 x38_2 a0_0 l0_1 l0_2 = some r) ∧ Aside0 (kq ≤ k) ∧ Aside0 (wc.heap[zk]? = some (.cells #[.int .i64 a0_0, (.slice A0_1 l0_1.length c0_1), (.slice A0_2 l0_2.length c0_2)] 24 (0, 0))) ∧ Aside0 (Below w.heap.size w wc))
 case first =>
  have H := HC3.out
  clear HC3
  replace H := Option.bind_eq_some_iff.mp H
  obtain ⟨zc, A50, H⟩ := H
  try dsimp only at H
  have A5 := aM A50
  clear A50
  by_cases c6 : zc = 0
  rotate_left
  ·rw [if_neg c6] at H
   have zl : (zc == 0) = false := beq_eq_false_iff_ne.mpr c6
   have c6b1 : (zc != 0) = true := bne_iff_ne.mpr c6
   (first | rw [zl] | (simp only [i64_w, i32_w]; rw [zl]) | skip)
   have H' := aM H
   clear H
   obtain ⟨hcz14_0, hcz14_1, hcz14_2, hfz14_0, hfz14_1, hfz14_2⟩ := blk3 za.out
   go_wp2_with (first | (go_at_call 41; (with_reducible refine (shape_Check.calls _ _ l0_1 zc _ ?s1 ?s2 A5.out).mono ?_); (case s1 => exact sC zb HB); (case s2 => exact zd.out); rintro e w' ⟨rfl, ⟨nd, rfl⟩⟩; (try first | exact ⟨rfl, _, World.drewN_drewN _ _ _⟩ | exact ⟨rfl, _, Eq.trans (World.drewN_drewN _ _ _) (congrArg (World.drewN _) (Nat.add_assoc _ _ _))⟩)))
   repeat (go_quiet (first | (go_at_call 41; (with_reducible refine (shape_Check.calls _ _ l0_1 zc _ ?s1 ?s2 A5.out).mono ?_); (case s1 => exact sC zb HB); (case s2 => exact zd.out); rintro e w' ⟨rfl, ⟨nd, rfl⟩⟩; (try first | exact ⟨rfl, _, World.drewN_drewN _ _ _⟩ | exact ⟨rfl, _, Eq.trans (World.drewN_drewN _ _ _) (congrArg (World.drewN _) (Nat.add_assoc _ _ _))⟩))); try go_wp2_with (first | (go_at_call 41; (with_reducible refine (shape_Check.calls _ _ l0_1 zc _ ?s1 ?s2 A5.out).mono ?_); (case s1 => exact sC zb HB); (case s2 => exact zd.out); rintro e w' ⟨rfl, ⟨nd, rfl⟩⟩; (try first | exact ⟨rfl, _, World.drewN_drewN _ _ _⟩ | exact ⟨rfl, _, Eq.trans (World.drewN_drewN _ _ _) (congrArg (World.drewN _) (Nat.add_assoc _ _ _))⟩))))
   go_meet
   case rel => exact ⟨_, (true), (pF), H', ⟨by first | omega | exact Nat.le_refl _⟩, ⟨pK za.out⟩, ⟨qB1 HB ze⟩⟩
  rw [if_pos c6] at H
  have zl : (zc == 0) = true := beq_iff_eq.mpr c6
  have c6b1 : (zc != 0) = false := bne_eq_false_iff_eq.mpr c6
  clear c6
  (first | rw [zl] | (simp only [i64_w, i32_w]; rw [zl]) | skip)
  by_cases c7 : (l0_2.length : Int) = (l0_1.length : Int)
  rotate_left
  ·rw [if_neg c7] at H
   have c7b0 : ((l0_2.length : Int) == (l0_1.length : Int)) = false := beq_eq_false_iff_ne.mpr c7
   have c7b1 : ((l0_2.length : Int) != (l0_1.length : Int)) = true := bne_iff_ne.mpr c7
   have c7b2 : (l0_2.length == l0_1.length) = false := by first | simpa using c7 | (simp at c7 ⊢; omega)
   have H' := aM H
   clear H
   obtain ⟨hcz13_0, hcz13_1, hcz13_2, hfz13_0, hfz13_1, hfz13_2⟩ := blk3 za.out
   go_wp2_with (first | (go_at_call 41; (with_reducible refine (shape_Check.calls _ _ l0_1 zc _ ?s1 ?s2 A5.out).mono ?_); (case s1 => exact sC zb HB); (case s2 => exact zd.out); rintro e w' ⟨rfl, ⟨nd, rfl⟩⟩; (try first | exact ⟨rfl, _, World.drewN_drewN _ _ _⟩ | exact ⟨rfl, _, Eq.trans (World.drewN_drewN _ _ _) (congrArg (World.drewN _) (Nat.add_assoc _ _ _))⟩)))
   repeat (go_quiet (first | (go_at_call 41; (with_reducible refine (shape_Check.calls _ _ l0_1 zc _ ?s1 ?s2 A5.out).mono ?_); (case s1 => exact sC zb HB); (case s2 => exact zd.out); rintro e w' ⟨rfl, ⟨nd, rfl⟩⟩; (try first | exact ⟨rfl, _, World.drewN_drewN _ _ _⟩ | exact ⟨rfl, _, Eq.trans (World.drewN_drewN _ _ _) (congrArg (World.drewN _) (Nat.add_assoc _ _ _))⟩))); try go_wp2_with (first | (go_at_call 41; (with_reducible refine (shape_Check.calls _ _ l0_1 zc _ ?s1 ?s2 A5.out).mono ?_); (case s1 => exact sC zb HB); (case s2 => exact zd.out); rintro e w' ⟨rfl, ⟨nd, rfl⟩⟩; (try first | exact ⟨rfl, _, World.drewN_drewN _ _ _⟩ | exact ⟨rfl, _, Eq.trans (World.drewN_drewN _ _ _) (congrArg (World.drewN _) (Nat.add_assoc _ _ _))⟩))))
   go_meet
   case rel => exact ⟨_, (true), (pF), H', ⟨by first | omega | exact Nat.le_refl _⟩, ⟨pK za.out⟩, ⟨qB1 HB ze⟩⟩
  rw [if_pos c7] at H
  have c7b0 : ((l0_2.length : Int) == (l0_1.length : Int)) = true := beq_iff_eq.mpr c7
  have c7b1 : ((l0_2.length : Int) != (l0_1.length : Int)) = false := bne_eq_false_iff_eq.mpr c7
  have c7b2 : (l0_2.length == l0_1.length) = true := by first | simpa using c7 | (simp at c7 ⊢; omega)
  clear c7
  by_cases c8 : a1 > 64
  ·rw [if_pos c8] at H
   have c8b0 : decide (64 < a1) = true := decide_eq_true c8
   clear c8
   have H' := aM H
   clear H
   obtain ⟨hcz9_0, hcz9_1, hcz9_2, hfz9_0, hfz9_1, hfz9_2⟩ := blk3 za.out
   go_wp2_with (first | (go_at_call 41; (with_reducible refine (shape_Check.calls _ _ l0_1 zc _ ?s1 ?s2 A5.out).mono ?_); (case s1 => exact sC zb HB); (case s2 => exact zd.out); rintro e w' ⟨rfl, ⟨nd, rfl⟩⟩; (try first | exact ⟨rfl, _, World.drewN_drewN _ _ _⟩ | exact ⟨rfl, _, Eq.trans (World.drewN_drewN _ _ _) (congrArg (World.drewN _) (Nat.add_assoc _ _ _))⟩)))
   repeat (go_quiet (first | (go_at_call 41; (with_reducible refine (shape_Check.calls _ _ l0_1 zc _ ?s1 ?s2 A5.out).mono ?_); (case s1 => exact sC zb HB); (case s2 => exact zd.out); rintro e w' ⟨rfl, ⟨nd, rfl⟩⟩; (try first | exact ⟨rfl, _, World.drewN_drewN _ _ _⟩ | exact ⟨rfl, _, Eq.trans (World.drewN_drewN _ _ _) (congrArg (World.drewN _) (Nat.add_assoc _ _ _))⟩))); try go_wp2_with (first | (go_at_call 41; (with_reducible refine (shape_Check.calls _ _ l0_1 zc _ ?s1 ?s2 A5.out).mono ?_); (case s1 => exact sC zb HB); (case s2 => exact zd.out); rintro e w' ⟨rfl, ⟨nd, rfl⟩⟩; (try first | exact ⟨rfl, _, World.drewN_drewN _ _ _⟩ | exact ⟨rfl, _, Eq.trans (World.drewN_drewN _ _ _) (congrArg (World.drewN _) (Nat.add_assoc _ _ _))⟩))))
   go_meet
   case rel => exact ⟨_, (true), (pF), H', ⟨by first | omega | exact Nat.le_refl _⟩, ⟨pK za.out⟩, ⟨qB1 HB ze⟩⟩
  rw [if_neg c8] at H
  have c8b0 : decide (64 < a1) = false := decide_eq_false c8
  clear c8
  by_cases c10 : a0_0 < 0
  ·rw [if_pos c10] at H
   have c10b0 : decide (a0_0 < 0) = true := decide_eq_true c10
   clear c10
   have H' := aM H
   clear H
   obtain ⟨hcz11_0, hcz11_1, hcz11_2, hfz11_0, hfz11_1, hfz11_2⟩ := blk3 za.out
   go_wp2_with (first | (go_at_call 41; (with_reducible refine (shape_Check.calls _ _ l0_1 zc _ ?s1 ?s2 A5.out).mono ?_); (case s1 => exact sC zb HB); (case s2 => exact zd.out); rintro e w' ⟨rfl, ⟨nd, rfl⟩⟩; (try first | exact ⟨rfl, _, World.drewN_drewN _ _ _⟩ | exact ⟨rfl, _, Eq.trans (World.drewN_drewN _ _ _) (congrArg (World.drewN _) (Nat.add_assoc _ _ _))⟩)))
   repeat (go_quiet (first | (go_at_call 41; (with_reducible refine (shape_Check.calls _ _ l0_1 zc _ ?s1 ?s2 A5.out).mono ?_); (case s1 => exact sC zb HB); (case s2 => exact zd.out); rintro e w' ⟨rfl, ⟨nd, rfl⟩⟩; (try first | exact ⟨rfl, _, World.drewN_drewN _ _ _⟩ | exact ⟨rfl, _, Eq.trans (World.drewN_drewN _ _ _) (congrArg (World.drewN _) (Nat.add_assoc _ _ _))⟩))); try go_wp2_with (first | (go_at_call 41; (with_reducible refine (shape_Check.calls _ _ l0_1 zc _ ?s1 ?s2 A5.out).mono ?_); (case s1 => exact sC zb HB); (case s2 => exact zd.out); rintro e w' ⟨rfl, ⟨nd, rfl⟩⟩; (try first | exact ⟨rfl, _, World.drewN_drewN _ _ _⟩ | exact ⟨rfl, _, Eq.trans (World.drewN_drewN _ _ _) (congrArg (World.drewN _) (Nat.add_assoc _ _ _))⟩))))
   go_meet
   case rel => exact ⟨_, (true), (pF), H', ⟨by first | omega | exact Nat.le_refl _⟩, ⟨pK za.out⟩, ⟨qB1 HB ze⟩⟩
  rw [if_neg c10] at H
  have c10b0 : decide (a0_0 < 0) = false := decide_eq_false c10
  clear c10
  have H' := aM H
  clear H
  obtain ⟨hcz12_0, hcz12_1, hcz12_2, hfz12_0, hfz12_1, hfz12_2⟩ := blk3 za.out
  go_wp2_with (first | (go_at_call 41; (with_reducible refine (shape_Check.calls _ _ l0_1 zc _ ?s1 ?s2 A5.out).mono ?_); (case s1 => exact sC zb HB); (case s2 => exact zd.out); rintro e w' ⟨rfl, ⟨nd, rfl⟩⟩; (try first | exact ⟨rfl, _, World.drewN_drewN _ _ _⟩ | exact ⟨rfl, _, Eq.trans (World.drewN_drewN _ _ _) (congrArg (World.drewN _) (Nat.add_assoc _ _ _))⟩)))
  repeat (go_quiet (first | (go_at_call 41; (with_reducible refine (shape_Check.calls _ _ l0_1 zc _ ?s1 ?s2 A5.out).mono ?_); (case s1 => exact sC zb HB); (case s2 => exact zd.out); rintro e w' ⟨rfl, ⟨nd, rfl⟩⟩; (try first | exact ⟨rfl, _, World.drewN_drewN _ _ _⟩ | exact ⟨rfl, _, Eq.trans (World.drewN_drewN _ _ _) (congrArg (World.drewN _) (Nat.add_assoc _ _ _))⟩))); try go_wp2_with (first | (go_at_call 41; (with_reducible refine (shape_Check.calls _ _ l0_1 zc _ ?s1 ?s2 A5.out).mono ?_); (case s1 => exact sC zb HB); (case s2 => exact zd.out); rintro e w' ⟨rfl, ⟨nd, rfl⟩⟩; (try first | exact ⟨rfl, _, World.drewN_drewN _ _ _⟩ | exact ⟨rfl, _, Eq.trans (World.drewN_drewN _ _ _) (congrArg (World.drewN _) (Nat.add_assoc _ _ _))⟩))))
  go_meet
  case rel => exact ⟨_, (decide (a0_0 ≥ a1)), (pF), H', ⟨by first | omega | exact Nat.le_refl _⟩, ⟨pK za.out⟩, ⟨qB1 HB ze⟩⟩
 case rest =>
  clear HC3
  obtain ⟨kq, x38_2, rfl, HA, HJ2, za, HB⟩ := hcut
  cases kq with
  | zero => exact absurd HA.out (by simp [view_Right.j0])
  | succ kj2 =>
   have H := HA.out
   clear HA
   simp only [view_Right.j0] at H
   by_cases c15 : x38_2 = true
   ·subst c15
    rw [if_pos rfl] at H
    obtain rfl := Option.some.inj H
    go_wp2
    repeat (go_quiet (fail); try go_wp2)
    go_ret
    exact ⟨pE, qB1 HB ze⟩
   replace c15 := Bool.eq_false_iff.mpr c15
   subst c15
   rw [if_neg (show ¬ (false = true) by decide)] at H
   have H' := aM H
   clear H
   obtain ⟨hcz16_0, hcz16_1, hcz16_2, hfz16_0, hfz16_1, hfz16_2⟩ := blk3 za.out
   go_wp2
   repeat (go_quiet (fail); try go_wp2)
   go_loopg [5, 6, 46] kj2 (fun kq v5 v6 v46 w' => ∃ (x5_2 : Int) (x6_2 : Int) (x46_2 : Int), v5 = .int .i64 x5_2 ∧ v6 = .int .i64 x6_2 ∧ v46 = .int .i64 x46_2 ∧ Aside0 (view_Right.l0 kq a1 x5_2 x6_2 l0_1 (l0_1.length : Int) x46_2 a0_0 l0_1 l0_2 = some r) ∧ Aside0 (kq ≤ kj2) ∧ Aside0 (w'.heap[zk]? = some (.cells #[.int .i64 a0_0, (.slice A0_1 l0_1.length c0_1), (.slice A0_2 l0_2.length c0_2)] 24 (0, 0))) ∧ Aside0 (Below w.heap.size w w'))
   case atStart => exact ⟨(a0_0), (a0_0), (0), (pF), (pF), (pF), H', ⟨Nat.le_refl _⟩, ⟨pK za.out⟩, ⟨qB1 HB ze⟩⟩
   case round =>
    clear H'
    try clear c15
    try clear hcz16_0 hcz16_1 hcz16_2 hfz16_0 hfz16_1 hfz16_2
    obtain ⟨x5_2, x6_2, x46_2, rfl, rfl, rfl, HA, HK2, za, HB⟩ := hrel
    cases gk with
    | zero => exact absurd HA.out (by simp [view_Right.l0])
    | succ k2 =>
     have H := HA.out
     clear HA
     simp only [view_Right.l0] at H
     by_cases c17 : x46_2 < (l0_1.length : Int)
     rotate_left
     ·rw [if_neg c17] at H
      have c17b0 : decide (x46_2 < (l0_1.length : Int)) = false := decide_eq_false c17
      clear c17
      by_cases c27 : x5_2 ≥ 0
      ·rw [if_pos c27] at H
       have c27b0 : decide (0 ≤ x5_2) = true := decide_eq_true c27
       clear c27
       obtain rfl := Option.some.inj H
       go_wp2
       repeat (go_quiet (fail); try go_wp2)
       go_ret
       exact ⟨pE, qB1 HB ze⟩
      rw [if_neg c27] at H
      have c27b0 : decide (0 ≤ x5_2) = false := decide_eq_false c27
      clear c27
      obtain rfl := Option.some.inj H
      go_wp2
      repeat (go_quiet (fail); try go_wp2)
      go_ret
      exact ⟨pE, qB1 HB ze⟩

     rw [if_pos c17] at H
     have c17b0 : decide (x46_2 < (l0_1.length : Int)) = true := decide_eq_true c17
     clear c17
     by_cases c18 : 0 ≤ x46_2
     rotate_left
     ·rw [if_neg c18] at H
      exact absurd H (by simp)
     rw [if_pos c18] at H
     have c18b0 : decide (0 ≤ x46_2) = true := decide_eq_true c18
     clear c18
     by_cases c19 : x46_2 < (l0_1.length : Int)
     rotate_left
     ·rw [if_neg c19] at H
      exact absurd H (by simp)
     rw [if_pos c19] at H
     have c19b0 : decide (x46_2 < (l0_1.length : Int)) = true := decide_eq_true c19
     clear c19
     by_cases c20 : x46_2 < (l0_2.length : Int)
     rotate_left
     ·rw [if_neg c20] at H
      exact absurd H (by simp)
     rw [if_pos c20] at H
     have c20b0 : decide (x46_2 < (l0_2.length : Int)) = true := decide_eq_true c20
     clear c20
     replace H := Option.bind_eq_some_iff.mp H
     obtain ⟨⟨zi, t107⟩, zn, H⟩ := H
     try dsimp only at H
     have A21 := aM zn
     clear zn
     by_cases c22 : t107 = true
     rotate_left
     ·replace c22 := Bool.eq_false_iff.mpr c22
      subst c22
      rw [if_neg (show ¬ (false = true) by decide)] at H
      obtain rfl := Option.some.inj H
      have p104 : 0 ≤ (x46_2 : Int) := of_decide_eq_true pD
      have q104 : x46_2 < (l0_1.length : Int) := of_decide_eq_true pD
      obtain ⟨ad104, e104, hx104_0⟩ := Kd.at_int zb.out x46_2 p104 q104
      cases e104
      replace hx104_0 := (HB.out.cell (World.block_lt_of_cell? w _ hx104_0)).trans hx104_0
      replace p104 := eq_true p104
      replace q104 := eq_true q104
      obtain ⟨hcz26_0, hcz26_1, hcz26_2, hfz26_0, hfz26_1, hfz26_2⟩ := blk3 za.out
      have p105 : 0 ≤ (x46_2 : Int) := of_decide_eq_true pD
      have q105 : x46_2 < (l0_2.length : Int) := of_decide_eq_true pD
      obtain ⟨ad105, e105, hx105_0⟩ := Kd.at_int zm.out x46_2 p105 q105
      cases e105
      replace hx105_0 := (HB.out.cell (World.block_lt_of_cell? w _ hx105_0)).trans hx105_0
      replace p105 := eq_true p105
      replace q105 := eq_true q105
      go_wp2_with (first | (go_at_call 42; (with_reducible refine (view_reach.calls (rd l0_1 x46_2) (rd l0_2 x46_2) a1 zi false _ A21.out).mono ?_); rintro e w' ⟨rfl, ⟨nd, rfl⟩⟩; (try first | exact ⟨rfl, _, World.drewN_drewN _ _ _⟩ | exact ⟨rfl, _, Eq.trans (World.drewN_drewN _ _ _) (congrArg (World.drewN _) (Nat.add_assoc _ _ _))⟩)))
      repeat (go_quiet (first | (go_at_call 42; (with_reducible refine (view_reach.calls (rd l0_1 x46_2) (rd l0_2 x46_2) a1 zi false _ A21.out).mono ?_); rintro e w' ⟨rfl, ⟨nd, rfl⟩⟩; (try first | exact ⟨rfl, _, World.drewN_drewN _ _ _⟩ | exact ⟨rfl, _, Eq.trans (World.drewN_drewN _ _ _) (congrArg (World.drewN _) (Nat.add_assoc _ _ _))⟩))); try go_wp2_with (first | (go_at_call 42; (with_reducible refine (view_reach.calls (rd l0_1 x46_2) (rd l0_2 x46_2) a1 zi false _ A21.out).mono ?_); rintro e w' ⟨rfl, ⟨nd, rfl⟩⟩; (try first | exact ⟨rfl, _, World.drewN_drewN _ _ _⟩ | exact ⟨rfl, _, Eq.trans (World.drewN_drewN _ _ _) (congrArg (World.drewN _) (Nat.add_assoc _ _ _))⟩))))
      go_ret
      exact ⟨pE, qB1 HB ze⟩
     subst c22
     rw [if_pos rfl] at H
     obtain ⟨ji23, hji23⟩ : ∃ j_ : Int, (mn zi 0) = j_ := ⟨_, rfl⟩
     replace H : (view_Right.l0 k2 a1 (wrap64 (x5_2 + (ji23))) (wrap64 (x6_2 + (mx zi 0))) l0_1 (l0_1.length : Int) (wrap64 (x46_2 + 1)) a0_0 l0_1 l0_2) = some r := by first | (rw [hji23] at H; exact H) | (simp only [hji23] at H ⊢; exact H)
     (try rw [hji23] at A21)
     (try (have hji23h : ji23 ≤ 0 := by (rw [← hji23]; unfold mn; (repeat' split) <;> omega)))
     (try (have hji23g : ji23 ≤ 64 := by omega))
     have hji23_ : (if 0 < zi then 0 else zi) = ji23 := hji23
     obtain ⟨ji24, hji24⟩ : ∃ j_ : Int, (mx zi 0) = j_ := ⟨_, rfl⟩
     replace H : (view_Right.l0 k2 a1 (wrap64 (x5_2 + (ji23))) (wrap64 (x6_2 + (ji24))) l0_1 (l0_1.length : Int) (wrap64 (x46_2 + 1)) a0_0 l0_1 l0_2) = some r := by first | (rw [hji24] at H; exact H) | (simp only [hji24] at H ⊢; exact H)
     (try rw [hji24] at A21)
     (try (have hji24l : 0 ≤ ji24 := by (rw [← hji24]; unfold mx; (repeat' split) <;> omega)))
     (try (have hji24m : 0 ≤ ji24 := by omega))
     have hji24_ : (if zi < 0 then 0 else zi) = ji24 := hji24
     have H' := aM H
     clear H
     have p104 : 0 ≤ (x46_2 : Int) := of_decide_eq_true pD
     have q104 : x46_2 < (l0_1.length : Int) := of_decide_eq_true pD
     obtain ⟨ad104, e104, hx104_0⟩ := Kd.at_int zb.out x46_2 p104 q104
     cases e104
     replace hx104_0 := (HB.out.cell (World.block_lt_of_cell? w _ hx104_0)).trans hx104_0
     replace p104 := eq_true p104
     replace q104 := eq_true q104
     obtain ⟨hcz25_0, hcz25_1, hcz25_2, hfz25_0, hfz25_1, hfz25_2⟩ := blk3 za.out
     have p105 : 0 ≤ (x46_2 : Int) := of_decide_eq_true pD
     have q105 : x46_2 < (l0_2.length : Int) := of_decide_eq_true pD
     obtain ⟨ad105, e105, hx105_0⟩ := Kd.at_int zm.out x46_2 p105 q105
     cases e105
     replace hx105_0 := (HB.out.cell (World.block_lt_of_cell? w _ hx105_0)).trans hx105_0
     replace p105 := eq_true p105
     replace q105 := eq_true q105
     go_wp2_with (first | (go_at_call 42; (with_reducible refine (view_reach.calls (rd l0_1 x46_2) (rd l0_2 x46_2) a1 zi true _ A21.out).mono ?_); rintro e w' ⟨rfl, ⟨nd, rfl⟩⟩; (try first | exact ⟨rfl, _, World.drewN_drewN _ _ _⟩ | exact ⟨rfl, _, Eq.trans (World.drewN_drewN _ _ _) (congrArg (World.drewN _) (Nat.add_assoc _ _ _))⟩)))
     repeat (go_quiet (first | (go_at_call 42; (with_reducible refine (view_reach.calls (rd l0_1 x46_2) (rd l0_2 x46_2) a1 zi true _ A21.out).mono ?_); rintro e w' ⟨rfl, ⟨nd, rfl⟩⟩; (try first | exact ⟨rfl, _, World.drewN_drewN _ _ _⟩ | exact ⟨rfl, _, Eq.trans (World.drewN_drewN _ _ _) (congrArg (World.drewN _) (Nat.add_assoc _ _ _))⟩))); try go_wp2_with (first | (go_at_call 42; (with_reducible refine (view_reach.calls (rd l0_1 x46_2) (rd l0_2 x46_2) a1 zi true _ A21.out).mono ?_); rintro e w' ⟨rfl, ⟨nd, rfl⟩⟩; (try first | exact ⟨rfl, _, World.drewN_drewN _ _ _⟩ | exact ⟨rfl, _, Eq.trans (World.drewN_drewN _ _ _) (congrArg (World.drewN _) (Nat.add_assoc _ _ _))⟩))))
     go_roundg k2
     case measure => have := HJ2.out; have := HK2.out; omega
     case rel => exact ⟨(wrap64 (x5_2 + (ji23))), (wrap64 (x6_2 + (ji24))), (wrap64 (x46_2 + 1)), (by first | rfl | (simp; done) | (simp only [← hji23] <;> (first | rfl | simp)) | (simp [*]; done)), (by first | rfl | (simp; done) | (simp only [← hji24] <;> (first | rfl | simp)) | (simp [*]; done)), (pF), H', ⟨by have := HJ2.out; have := HK2.out; omega⟩, ⟨pK za.out⟩, ⟨qB1 HB ze⟩⟩
end Go.Proofs.Ytjbpekblcecneaa.Q
