-- By wip/gprint.py (this session's), out of the kit's print.py.
import Derived.Test.YticcamciaohepaaQx0
import Derived.Test.YticcamciaohepaaQxfShapeWith
namespace Go.Proofs.Yticcamciaohepaa.Q
open Go.RowKit Go.Proofs.YticcamciaohepaaW.PrintWords Go.Proofs.YticcamciaohepaaW.PrintLast Go.Proofs.YticcamciaohepaaW.PrintMore
attribute [local go_sem] max2_int min2_int max_two min_two max_three min_three max_four min_four   -- for this text's walks alone
set_option linter.unusedVariables false
set_option linter.unusedSimpArgs false

/-! ### move_taken: function 23 -/
mutual
def move_taken.j0 : Nat → List Int → Bool → Int → Int → Int → Int → Int → Int → Int → Int → Bool → List Int → Option (List Int × Int)
 | 0, _, _, _, _, _, _, _, _, _, _, _, _ => none
 | k + 1, x0, x17, zb, ze, zf, zg, zh, zi, zj, zk, zl, zc => if x17 = true then (some (([] : List Int), 10)) else (move_taken.l0 k x0 zc (zc.length : Int) 0 zb ze zf zg zh zi zj zk zl zc)
def move_taken.l0 : Nat → List Int → List Int → Int → Int → Int → Int → Int → Int → Int → Int → Int → Int → Bool → List Int → Option (List Int × Int)
 | 0, _, _, _, _, _, _, _, _, _, _, _, _, _, _ => none
 | k + 1, x0, x19, x20, x21, zb, ze, zf, zg, zh, zi, zj, zk, zl, zc => if x21 < x20 then (if 0 ≤ x21 then (if x21 < (x19.length : Int) then (if (rd x19 x21) < 0 then (some (([] : List Int), 11)) else (if 0 ≤ zb then (if zb < (x0.length : Int) then (if (rd x19 x21) ≥ (rd x0 zb) then (some (([] : List Int), 11)) else (move_taken.l0 k x0 x19 x20 (wrap64 (x21 + 1)) zb ze zf zg zh zi zj zk zl zc)) else (none)) else (none))) else (none)) else (none)) else ((shape_With.f k x0 zb (zc.length : Int)).bind fun bt112 => (some (bt112.1, bt112.2)))
end
def move_taken.f (k : Nat) (l0 : List Int) (a1_0 : Int) (a1_1 : Int) (a1_2 : Int) (a1_3 : Int) (a1_4 : Int) (a1_5 : Int) (a1_6 : Int) (a1_7 : Int) (a1_8 : Bool) (l1_9 : List Int) : Option (List Int × Int) := if a1_0 < 0 then (move_taken.j0 k l0 true a1_0 a1_1 a1_2 a1_3 a1_4 a1_5 a1_6 a1_7 a1_8 l1_9) else (move_taken.j0 k l0 (decide (a1_0 ≥ (l0.length : Int))) a1_0 a1_1 a1_2 a1_3 a1_4 a1_5 a1_6 a1_7 a1_8 l1_9)
set_option maxHeartbeats 8000000 in
set_option maxRecDepth 100000 in
theorem move_taken.calls (k : Nat) (A0 : Option Addr) (c0 : Nat) (l0 : List Int) (a1_0 : Int) (a1_1 : Int) (a1_2 : Int) (a1_3 : Int) (a1_4 : Int) (a1_5 : Int) (a1_6 : Int) (a1_7 : Int) (a1_8 : Bool) (A1_9 : Option Addr) (c1_9 : Nat) (l1_9 : List Int) (r1 : List Int) (r2 : Int) (w : World) (hr0 : Kd.C (Kd.int .i64) w A0 l0.length l0) (hc0 : l0.length ≤ c0) (hr1_9 : Kd.C (Kd.int .i64) w A1_9 l1_9.length l1_9) (hc1_9 : l1_9.length ≤ c1_9) (h : move_taken.f k l0 a1_0 a1_1 a1_2 a1_3 a1_4 a1_5 a1_6 a1_7 a1_8 l1_9 = some (r1, r2)) :
  Calls Try.prog 23 #[.slice A0 l0.length c0, .agg #[.int .i64 a1_0, .int .i64 a1_1, .int .i64 a1_2, .int .i64 a1_3, .int .i64 a1_4, .int .i64 a1_5, .int .i64 a1_6, .int .i64 a1_7, .bool a1_8, .slice A1_9 l1_9.length c1_9]] w fun e w' => ∃ v0_ : Value, e = .returned (.tuple #[v0_, .int .i64 r2]) ∧ Kd.R (Kd.int .i64) 3 w' w.heap.size (fun _ => True) v0_ r1 ∧ Below w.heap.size w w' := by
 have hu24 := Try.underlying24
 have HR0 := aM hr0
 have HC0 := aM hc0
 clear hr0 hc0
 have zm := aM hr1_9
 have HC1_9 := aM hc1_9
 clear hr1_9 hc1_9
 have HB := aM (Below.refl w.heap.size w)
 have H : (if a1_0 < 0 then (move_taken.j0 k l0 true a1_0 a1_1 a1_2 a1_3 a1_4 a1_5 a1_6 a1_7 a1_8 l1_9) else (move_taken.j0 k l0 (decide (a1_0 ≥ (l0.length : Int))) a1_0 a1_1 a1_2 a1_3 a1_4 a1_5 a1_6 a1_7 a1_8 l1_9)) = some (r1, r2) := h
 clear h
 have HC3 := aM H
 clear H
 go_enter Try.func23, Try.ntmps23
 go_upto_region 1 with (first | ((with_reducible refine gate_dst (N := 3) rfl ?_); (try (refine gate_guard (by rfl) ?_; dsimp only)); refine box_event ?hg (N := 3) ?hd (cs := #[.int .i64 a1_0, .int .i64 a1_1, .int .i64 a1_2, .int .i64 a1_3, .int .i64 a1_4, .int .i64 a1_5, .int .i64 a1_6, .int .i64 a1_7, .bool a1_8, .slice A1_9 l1_9.length c1_9]) (t := 24) ?hr ?_; (case hd => rfl); (case hg => rfl); (case hr => first | (go_simp; done) | (go_simp; rfl)); intro zo hg w4 hbox hb; have za := aM (hbox); have GW109 := gE (w := w) hg (qB HB); have zd := GW109; replace HB := bS (qB HB) hb; clear hb hbox hg))
 (try simp only [Act.put, sP])
 go_cut [17] (fun v17 wc => ∃ (kq : Nat) (x17_2 : Bool), v17 = .bool x17_2 ∧ Aside0 (move_taken.j0 kq l0 x17_2 a1_0 a1_1 a1_2 a1_3 a1_4 a1_5 a1_6 a1_7 a1_8 l1_9 = some (r1, r2)) ∧ Aside0 (kq ≤ k) ∧ Aside0 (wc.heap[zo]? = some (.cells #[.int .i64 a1_0, .int .i64 a1_1, .int .i64 a1_2, .int .i64 a1_3, .int .i64 a1_4, .int .i64 a1_5, .int .i64 a1_6, .int .i64 a1_7, .bool a1_8, (.slice A1_9 l1_9.length c1_9)] 24 (0, 0))) ∧ Aside0 (Below w.heap.size w wc))
 case first =>
  have H := HC3.out
  clear HC3
  by_cases c5 : a1_0 < 0
  ·rw [if_pos c5] at H
   have zn : decide (a1_0 < 0) = true := decide_eq_true c5
   clear c5
   (first | rw [zn] | (simp only [i64_w, i32_w]; rw [zn]) | skip)
   have H' := aM H
   clear H
   obtain ⟨hcz6_0, hcz6_1, hcz6_2, hcz6_3, hcz6_4, hcz6_5, hcz6_6, hcz6_7, hcz6_8, hcz6_9, hfz6_0, hfz6_1, hfz6_2, hfz6_3, hfz6_4, hfz6_5, hfz6_6, hfz6_7, hfz6_8, hfz6_9⟩ := blk10 za.out
   go_wp2
   go_meet
   case rel => exact ⟨_, (true), (pF), H', ⟨by first | omega | exact Nat.le_refl _⟩, ⟨pK za.out⟩, ⟨qB1 HB zd⟩⟩
  rw [if_neg c5] at H
  have zn : decide (a1_0 < 0) = false := decide_eq_false c5
  clear c5
  (first | rw [zn] | (simp only [i64_w, i32_w]; rw [zn]) | skip)
  have H' := aM H
  clear H
  obtain ⟨hcz7_0, hcz7_1, hcz7_2, hcz7_3, hcz7_4, hcz7_5, hcz7_6, hcz7_7, hcz7_8, hcz7_9, hfz7_0, hfz7_1, hfz7_2, hfz7_3, hfz7_4, hfz7_5, hfz7_6, hfz7_7, hfz7_8, hfz7_9⟩ := blk10 za.out
  go_wp2
  go_meet
  case rel => exact ⟨_, (decide (a1_0 ≥ (l0.length : Int))), (pF), H', ⟨by first | omega | exact Nat.le_refl _⟩, ⟨pK za.out⟩, ⟨qB1 HB zd⟩⟩
 case rest =>
  clear HC3
  obtain ⟨kq, x17_2, rfl, HA, HJ2, za, HB⟩ := hcut
  cases kq with
  | zero => exact absurd HA.out (by simp [move_taken.j0])
  | succ kj2 =>
   have H := HA.out
   clear HA
   simp only [move_taken.j0] at H
   by_cases c8 : x17_2 = true
   ·subst c8
    rw [if_pos rfl] at H
    simp only [Option.some.injEq, Prod.mk.injEq] at H
    obtain ⟨rfl, rfl⟩ := H
    go_wp2
    go_ret2
    exact ⟨_, pE, pN, qB1 HB zd⟩
   replace c8 := Bool.eq_false_iff.mpr c8
   subst c8
   rw [if_neg (show ¬ (false = true) by decide)] at H
   have H' := aM H
   clear H
   obtain ⟨hcz9_0, hcz9_1, hcz9_2, hcz9_3, hcz9_4, hcz9_5, hcz9_6, hcz9_7, hcz9_8, hcz9_9, hfz9_0, hfz9_1, hfz9_2, hfz9_3, hfz9_4, hfz9_5, hfz9_6, hfz9_7, hfz9_8, hfz9_9⟩ := blk10 za.out
   go_wp2
   go_loopg [21] kj2 (fun kq v21 w' => ∃ (x21_2 : Int), v21 = .int .i64 x21_2 ∧ Aside0 (move_taken.l0 kq l0 l1_9 (l1_9.length : Int) x21_2 a1_0 a1_1 a1_2 a1_3 a1_4 a1_5 a1_6 a1_7 a1_8 l1_9 = some (r1, r2)) ∧ Aside0 (kq ≤ kj2) ∧ Aside0 (w'.heap[zo]? = some (.cells #[.int .i64 a1_0, .int .i64 a1_1, .int .i64 a1_2, .int .i64 a1_3, .int .i64 a1_4, .int .i64 a1_5, .int .i64 a1_6, .int .i64 a1_7, .bool a1_8, (.slice A1_9 l1_9.length c1_9)] 24 (0, 0))) ∧ Aside0 (Below w.heap.size w w'))
   case atStart => exact ⟨(0), (pF), H', ⟨Nat.le_refl _⟩, ⟨pK za.out⟩, ⟨qB1 HB zd⟩⟩
   case round =>
    clear H'
    try clear c8
    try clear hcz9_0 hcz9_1 hcz9_2 hcz9_3 hcz9_4 hcz9_5 hcz9_6 hcz9_7 hcz9_8 hcz9_9 hfz9_0 hfz9_1 hfz9_2 hfz9_3 hfz9_4 hfz9_5 hfz9_6 hfz9_7 hfz9_8 hfz9_9
    obtain ⟨x21_2, rfl, HA, HK2, za, HB⟩ := hrel
    cases gk with
    | zero => exact absurd HA.out (by simp [move_taken.l0])
    | succ k2 =>
     have H := HA.out
     clear HA
     simp only [move_taken.l0] at H
     by_cases c10 : x21_2 < (l1_9.length : Int)
     rotate_left
     ·rw [if_neg c10] at H
      have c10b0 : decide (x21_2 < (l1_9.length : Int)) = false := decide_eq_false c10
      clear c10
      replace H := Option.bind_eq_some_iff.mp H
      obtain ⟨⟨t112, t113⟩, zp, H⟩ := H
      try dsimp only at H
      have A19 := aM zp
      clear zp
      simp only [Option.some.injEq, Prod.mk.injEq] at H
      obtain ⟨rfl, rfl⟩ := H
      obtain ⟨hcz20_0, hcz20_1, hcz20_2, hcz20_3, hcz20_4, hcz20_5, hcz20_6, hcz20_7, hcz20_8, hcz20_9, hfz20_0, hfz20_1, hfz20_2, hfz20_3, hfz20_4, hfz20_5, hfz20_6, hfz20_7, hfz20_8, hfz20_9⟩ := blk10 za.out
      go_wp2_with (first | ((with_reducible refine gate_callee (f := 36) rfl ?_); refine goesL_ (some 43) rfl rfl Try.func36 (by kernel_rfl) rfl #[.slice A0 l0.length c0, .int .i64 a1_0, .int .i64 (l1_9.length : Int)] rfl pA ?_; (with_reducible refine (shape_With.calls k2 _ _ l0 a1_0 (l1_9.length : Int) t112 t113 _ ?s1 ?s2 A19.out).mono ?_); (case s1 => exact sC HR0 HB); (case s2 => exact HC0.out); rintro e w21 ⟨v114, rfl, ho0, hb⟩; refine ⟨_, rfl, ?_⟩; have HO115 := aM (Kd.R_lower ho0 (below_size (qB1 HB zd))); replace za := bK za hb; replace HB := bS (qB1 HB zd) hb; (try clear hb); (try clear hk); (try clear hi); (try clear ho0)))
      go_ret2
      exact ⟨_, pE, pR HO115.out, qB1 HB zd⟩

     rw [if_pos c10] at H
     have c10b0 : decide (x21_2 < (l1_9.length : Int)) = true := decide_eq_true c10
     clear c10
     by_cases c11 : 0 ≤ x21_2
     rotate_left
     ·rw [if_neg c11] at H
      exact absurd H (by simp)
     rw [if_pos c11] at H
     have c11b0 : decide (0 ≤ x21_2) = true := decide_eq_true c11
     clear c11
     by_cases c12 : x21_2 < (l1_9.length : Int)
     rotate_left
     ·rw [if_neg c12] at H
      exact absurd H (by simp)
     rw [if_pos c12] at H
     have c12b0 : decide (x21_2 < (l1_9.length : Int)) = true := decide_eq_true c12
     clear c12
     by_cases c13 : (rd l1_9 x21_2) < 0
     ·rw [if_pos c13] at H
      have c13b0 : decide ((rd l1_9 x21_2) < 0) = true := decide_eq_true c13
      clear c13
      simp only [Option.some.injEq, Prod.mk.injEq] at H
      obtain ⟨rfl, rfl⟩ := H
      have p110 : 0 ≤ (x21_2 : Int) := of_decide_eq_true pD
      have q110 : x21_2 < (l1_9.length : Int) := of_decide_eq_true pD
      obtain ⟨ad110, e110, hx110_0⟩ := Kd.at_int zm.out x21_2 p110 q110
      cases e110
      replace hx110_0 := (HB.out.cell (World.block_lt_of_cell? w _ hx110_0)).trans hx110_0
      replace p110 := eq_true p110
      replace q110 := eq_true q110
      go_wp2
      go_ret2
      exact ⟨_, pE, pN, qB1 HB zd⟩
     rw [if_neg c13] at H
     have c13b0 : decide ((rd l1_9 x21_2) < 0) = false := decide_eq_false c13
     clear c13
     by_cases c14 : 0 ≤ a1_0
     rotate_left
     ·rw [if_neg c14] at H
      exact absurd H (by simp)
     rw [if_pos c14] at H
     have c14b0 : decide (0 ≤ a1_0) = true := decide_eq_true c14
     clear c14
     by_cases c15 : a1_0 < (l0.length : Int)
     rotate_left
     ·rw [if_neg c15] at H
      exact absurd H (by simp)
     rw [if_pos c15] at H
     have c15b0 : decide (a1_0 < (l0.length : Int)) = true := decide_eq_true c15
     clear c15
     by_cases c16 : (rd l1_9 x21_2) ≥ (rd l0 a1_0)
     ·rw [if_pos c16] at H
      have c16b0 : decide ((rd l0 a1_0) ≤ (rd l1_9 x21_2)) = true := decide_eq_true c16
      clear c16
      simp only [Option.some.injEq, Prod.mk.injEq] at H
      obtain ⟨rfl, rfl⟩ := H
      have p110 : 0 ≤ (x21_2 : Int) := of_decide_eq_true pD
      have q110 : x21_2 < (l1_9.length : Int) := of_decide_eq_true pD
      obtain ⟨ad110, e110, hx110_0⟩ := Kd.at_int zm.out x21_2 p110 q110
      cases e110
      replace hx110_0 := (HB.out.cell (World.block_lt_of_cell? w _ hx110_0)).trans hx110_0
      replace p110 := eq_true p110
      replace q110 := eq_true q110
      obtain ⟨hcz17_0, hcz17_1, hcz17_2, hcz17_3, hcz17_4, hcz17_5, hcz17_6, hcz17_7, hcz17_8, hcz17_9, hfz17_0, hfz17_1, hfz17_2, hfz17_3, hfz17_4, hfz17_5, hfz17_6, hfz17_7, hfz17_8, hfz17_9⟩ := blk10 za.out
      have p111 : 0 ≤ (a1_0 : Int) := of_decide_eq_true pD
      have q111 : a1_0 < (l0.length : Int) := of_decide_eq_true pD
      obtain ⟨ad111, e111, hx111_0⟩ := Kd.at_int HR0.out a1_0 p111 q111
      cases e111
      replace hx111_0 := (HB.out.cell (World.block_lt_of_cell? w _ hx111_0)).trans hx111_0
      replace p111 := eq_true p111
      replace q111 := eq_true q111
      go_wp2
      go_ret2
      exact ⟨_, pE, pN, qB1 HB zd⟩
     rw [if_neg c16] at H
     have c16b0 : decide ((rd l0 a1_0) ≤ (rd l1_9 x21_2)) = false := decide_eq_false c16
     clear c16
     have H' := aM H
     clear H
     have p110 : 0 ≤ (x21_2 : Int) := of_decide_eq_true pD
     have q110 : x21_2 < (l1_9.length : Int) := of_decide_eq_true pD
     obtain ⟨ad110, e110, hx110_0⟩ := Kd.at_int zm.out x21_2 p110 q110
     cases e110
     replace hx110_0 := (HB.out.cell (World.block_lt_of_cell? w _ hx110_0)).trans hx110_0
     replace p110 := eq_true p110
     replace q110 := eq_true q110
     obtain ⟨hcz18_0, hcz18_1, hcz18_2, hcz18_3, hcz18_4, hcz18_5, hcz18_6, hcz18_7, hcz18_8, hcz18_9, hfz18_0, hfz18_1, hfz18_2, hfz18_3, hfz18_4, hfz18_5, hfz18_6, hfz18_7, hfz18_8, hfz18_9⟩ := blk10 za.out
     have p111 : 0 ≤ (a1_0 : Int) := of_decide_eq_true pD
     have q111 : a1_0 < (l0.length : Int) := of_decide_eq_true pD
     obtain ⟨ad111, e111, hx111_0⟩ := Kd.at_int HR0.out a1_0 p111 q111
     cases e111
     replace hx111_0 := (HB.out.cell (World.block_lt_of_cell? w _ hx111_0)).trans hx111_0
     replace p111 := eq_true p111
     replace q111 := eq_true q111
     go_wp2
     go_roundg k2
     case measure => have := HJ2.out; have := HK2.out; omega
     case rel => exact ⟨(wrap64 (x21_2 + 1)), (pF), H', ⟨by have := HJ2.out; have := HK2.out; omega⟩, ⟨pK za.out⟩, ⟨qB1 HB zd⟩⟩
end Go.Proofs.Yticcamciaohepaa.Q
