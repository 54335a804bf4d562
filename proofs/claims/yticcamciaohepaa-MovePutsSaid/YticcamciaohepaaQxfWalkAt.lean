-- By wip/gprint.py (this session's), out of the kit's print.py.
import Derived.Test.YticcamciaohepaaQx0
import Derived.Test.YticcamciaohepaaQxfShapeCount
namespace Go.Proofs.Yticcamciaohepaa.Q
open Go.RowKit Go.Proofs.YticcamciaohepaaW.PrintWords Go.Proofs.YticcamciaohepaaW.PrintLast Go.Proofs.YticcamciaohepaaW.PrintMore
attribute [local go_sem] max2_int min2_int max_two min_two max_three min_three max_four min_four   -- for this text's walks alone
set_option linter.unusedVariables false
set_option linter.unusedSimpArgs false

/-! ### walk_At: function 18 -/
mutual
def walk_At.j0 : Nat → List Int → Int → Bool → Option (List Int × Bool)
 | 0, _, _, _ => none
 | k + 1, x0, x1, x15 => if x15 = true then (some (([] : List Int), false)) else (if 0 ≤ (x0.length : Int) then (if ((x0.length : Int) : Int).toNat ≤ 35184372088832 then (walk_At.l0 k x0 x1 (List.replicate ((x0.length : Int) : Int).toNat 0) (wrap64 ((x0.length : Int) - 1))) else (none)) else (none))
def walk_At.l0 : Nat → List Int → Int → List Int → Int → Option (List Int × Bool)
 | 0, _, _, _, _ => none
 | k + 1, x0, x1, x6, x7 => if x7 ≥ 0 then (if 0 ≤ x7 then (if x7 < (x0.length : Int) then (if (rd x0 x7) = 0 then (none) else (if x7 < (x6.length : Int) then (walk_At.l0 k x0 (wrap64 (Int.tdiv x1 (rd x0 x7))) (x6.set (x7 : Int).toNat (Int.tmod x1 (rd x0 x7))) (wrap64 (x7 - 1))) else (none))) else (none)) else (none)) else (some (x6, true))
end
def walk_At.f (k : Nat) (l0 : List Int) (a1 : Int) : Option (List Int × Bool) := if a1 < 0 then (walk_At.j0 k l0 a1 true) else ((shape_Count.f k l0).bind fun za => (walk_At.j0 k l0 a1 (decide (a1 ≥ za))))
set_option maxHeartbeats 8000000 in
set_option maxRecDepth 100000 in
theorem walk_At.calls (k : Nat) (A0 : Option Addr) (c0 : Nat) (l0 : List Int) (a1 : Int) (r1 : List Int) (r2 : Bool) (w : World) (hr0 : Kd.C (Kd.int .i64) w A0 l0.length l0) (hc0 : l0.length ≤ c0) (h : walk_At.f k l0 a1 = some (r1, r2)) :
  Calls Try.prog 18 #[.slice A0 l0.length c0, .int .i64 a1] w fun e w' => ∃ v0_ : Value, e = .returned (.tuple #[v0_, .bool r2]) ∧ Kd.R (Kd.int .i64) 3 w' w.heap.size (fun _ => True) v0_ r1 ∧ Below w.heap.size w w' := by
 have HR0 := aM hr0
 have HC0 := aM hc0
 clear hr0 hc0
 have HB := aM (Below.refl w.heap.size w)
 have H : (if a1 < 0 then (walk_At.j0 k l0 a1 true) else ((shape_Count.f k l0).bind fun za => (walk_At.j0 k l0 a1 (decide (a1 ≥ za))))) = some (r1, r2) := h
 clear h
 have HC3 := aM H
 clear H
 go_enter Try.func18, Try.ntmps18
 go_upto_region 1 with (fail)
 go_cut [15] (fun v15 wc => ∃ (kq : Nat) (x15_2 : Bool), v15 = .bool x15_2 ∧ Aside0 (walk_At.j0 kq l0 a1 x15_2 = some (r1, r2)) ∧ Aside0 (kq ≤ k) ∧ Aside0 (Below w.heap.size w wc))
 case first =>
  have H := HC3.out
  clear HC3
  by_cases c4 : a1 < 0
  ·rw [if_pos c4] at H
   have zc : decide (a1 < 0) = true := decide_eq_true c4
   clear c4
   (first | rw [zc] | (simp only [i64_w, i32_w]; rw [zc]) | skip)
   have H' := aM H
   clear H
   go_wp2
   go_meet
   case rel => exact ⟨_, (true), (pF), H', ⟨by first | omega | exact Nat.le_refl _⟩, ⟨qB HB⟩⟩
  rw [if_neg c4] at H
  have zc : decide (a1 < 0) = false := decide_eq_false c4
  clear c4
  (first | rw [zc] | (simp only [i64_w, i32_w]; rw [zc]) | skip)
  replace H := Option.bind_eq_some_iff.mp H
  obtain ⟨za, A50, H⟩ := H
  try dsimp only at H
  have A5 := aM A50
  clear A50
  have H' := aM H
  clear H
  go_wp2_with (first | (go_at_call 34; (with_reducible refine (shape_Count.calls k _ _ l0 za _ ?s1 ?s2 A5.out).mono ?_); (case s1 => exact sC HR0 HB); (case s2 => exact HC0.out); rintro e w' ⟨rfl, ⟨nd, rfl⟩⟩))
  go_meet
  case rel => exact ⟨_, (decide (a1 ≥ za)), (pF), H', ⟨by first | omega | exact Nat.le_refl _⟩, ⟨qB HB⟩⟩
 case rest =>
  clear HC3
  obtain ⟨kq, x15_2, rfl, HA, HJ2, HB⟩ := hcut
  cases kq with
  | zero => exact absurd HA.out (by simp [walk_At.j0])
  | succ kj2 =>
   have H := HA.out
   clear HA
   simp only [walk_At.j0] at H
   by_cases c6 : x15_2 = true
   ·subst c6
    rw [if_pos rfl] at H
    simp only [Option.some.injEq, Prod.mk.injEq] at H
    obtain ⟨rfl, rfl⟩ := H
    go_wp2
    go_ret2
    exact ⟨_, pE, pN, qB HB⟩
   replace c6 := Bool.eq_false_iff.mpr c6
   subst c6
   rw [if_neg (show ¬ (false = true) by decide)] at H
   by_cases c7 : 0 ≤ (l0.length : Int)
   rotate_left
   ·rw [if_neg c7] at H
    exact absurd H (by simp)

   rw [if_pos c7] at H
   have c7b0 := eq_true c7
   have c7b1 : decide (0 ≤ (l0.length : Int)) = true := decide_eq_true c7
   clear c7
   by_cases c8 : ((l0.length : Int) : Int).toNat ≤ 35184372088832
   rotate_left
   ·rw [if_neg c8] at H
    exact absurd H (by simp)
   rw [if_pos c8] at H
   have c8b0 := eq_true c8
   have c8b1 : decide (((l0.length : Int) : Int).toNat ≤ 35184372088832) = true := decide_eq_true c8
   clear c8
   obtain ⟨zh, zd⟩ : ∃ y_ : List Int, y_ = (List.replicate ((l0.length : Int) : Int).toNat 0) := ⟨_, rfl⟩
   replace H : (walk_At.l0 kj2 l0 a1 zh (wrap64 ((l0.length : Int) - 1))) = some (r1, r2) := pH zd H
   have zf := aM zd
   clear zd
   have H' := aM H
   clear H
   go_wp2_with (first | ((with_reducible refine gate_dst (N := 18) rfl ?_); refine Kd.R_make (Kd.int .i64) _ 3 rfl (N := 18) rfl 22 _ _ rfl (l0.length : Int) rfl rfl Try.underlying22 (.int .i64 0) 8 info3 rfl (by decide) (by omega) 0 (ok := fun _ => True) (okp := fun _ => True) rfl (fun _ hk => hk) trivial (of_decide_eq_true pD) (Nat.le_trans (Nat.mul_le_mul_right _ (of_decide_eq_true pD : (l0.length : Int).toNat ≤ 35184372088832)) (by omega)) (Below.refl _ _) (Nat.le_refl _) ?_; intro v365 w9 ho10 hb hg_ hnew_; clear hg_ hnew_; (first | rw [← zf.out] at ho10 | (simp only [Int.reduceToNat] at ho10; rw [← zf.out] at ho10)); have HO366 := aM (Kd.R_lower ho10 (below_size (qB HB))); replace HB := bS (qB HB) hb; clear hb ho10))
   go_loopg [1, 7] kj2 (fun kq v1 v7 w' => ∃ (x1_2 : Int) (x6_2 : List Int) (x7_2 : Int), v1 = .int .i64 x1_2 ∧ v7 = .int .i64 x7_2 ∧ Aside0 (walk_At.l0 kq l0 x1_2 x6_2 x7_2 = some (r1, r2)) ∧ Aside0 (kq ≤ kj2) ∧ Aside0 (Kd.R (Kd.int .i64) 3 w' w.heap.size (fun _ => True) v365 x6_2) ∧ Aside0 (Below w.heap.size w w'))
   case atStart => exact ⟨(a1), (zh), (wrap64 ((l0.length : Int) - 1)), (pF), (pF), H', ⟨Nat.le_refl _⟩, ⟨pR HO366.out⟩, ⟨qB HB⟩⟩
   case round =>
    clear H'
    try clear c6
    try clear c7b0
    try clear c7b1
    try clear c8b0
    try clear c8b1
    obtain ⟨x1_2, x6_2, x7_2, rfl, rfl, HA, HK2, zb, HB⟩ := hrel
    cases gk with
    | zero => exact absurd HA.out (by simp [walk_At.l0])
    | succ k2 =>
     have H := HA.out
     clear HA
     simp only [walk_At.l0] at H
     by_cases c11 : x7_2 ≥ 0
     rotate_left
     ·rw [if_neg c11] at H
      have c11b0 : decide (0 ≤ x7_2) = false := decide_eq_false c11
      clear c11
      simp only [Option.some.injEq, Prod.mk.injEq] at H
      obtain ⟨rfl, rfl⟩ := H
      go_wp2
      go_ret2
      exact ⟨_, pE, pR zb.out, qB HB⟩
     rw [if_pos c11] at H
     have c11b0 : decide (0 ≤ x7_2) = true := decide_eq_true c11
     clear c11
     by_cases c12 : 0 ≤ x7_2
     rotate_left
     ·rw [if_neg c12] at H
      exact absurd H (by simp)
     rw [if_pos c12] at H
     have c12b0 : decide (0 ≤ x7_2) = true := decide_eq_true c12
     clear c12
     by_cases c13 : x7_2 < (l0.length : Int)
     rotate_left
     ·rw [if_neg c13] at H
      exact absurd H (by simp)
     rw [if_pos c13] at H
     have c13b0 : decide (x7_2 < (l0.length : Int)) = true := decide_eq_true c13
     clear c13
     by_cases c14 : (rd l0 x7_2) = 0
     ·rw [if_pos c14] at H
      exact absurd H (by simp)
     rw [if_neg c14] at H
     have c14b0 : ((rd l0 x7_2) == 0) = false := beq_eq_false_iff_ne.mpr c14
     have c14b1 : ((rd l0 x7_2) != 0) = true := bne_iff_ne.mpr c14
     by_cases c15 : x7_2 < (x6_2.length : Int)
     rotate_left
     ·rw [if_neg c15] at H
      exact absurd H (by simp)
     rw [if_pos c15] at H
     have c15b0 : decide (x7_2 < (x6_2.length : Int)) = true := decide_eq_true c15
     clear c15
     obtain ⟨zg, ze⟩ : ∃ y_ : List Int, y_ = (x6_2.set (x7_2 : Int).toNat (Int.tmod x1_2 (rd l0 x7_2))) := ⟨_, rfl⟩
     replace H : (walk_At.l0 k2 l0 (wrap64 (Int.tdiv x1_2 (rd l0 x7_2))) zg (wrap64 (x7_2 - 1))) = some (r1, r2) := pH ze H
     have Ny368 := aM ze
     clear ze
     have H' := aM H
     clear H
     have p367 : 0 ≤ (x7_2 : Int) := of_decide_eq_true pD
     have q367 : x7_2 < (l0.length : Int) := of_decide_eq_true pD
     obtain ⟨ad367, e367, hx367_0⟩ := Kd.at_int HR0.out x7_2 p367 q367
     cases e367
     replace hx367_0 := (HB.out.cell (World.block_lt_of_cell? w _ hx367_0)).trans hx367_0
     replace p367 := eq_true p367
     replace q367 := eq_true q367
     have p16 : 0 ≤ (x7_2 : Int) := of_decide_eq_true pD
     have q16 : (x7_2 : Int) < ((x6_2.length : Int) : Int) := of_decide_eq_true pD
     obtain ⟨go16, co16, zi, zj, gl16, cl16, HG16⟩ := Kd.R_form zb.out (by omega)
     (first | cases zi | (injection zi with ea_ en_ ec_; (first | subst ea_ | (injection ea_ with ea_; subst ea_)); subst ec_; clear en_))
     have GB16 := aM zj
     have GG16 := aM HG16
     clear zj gl16 HG16
     obtain ⟨hx16_0, hf16_0⟩ := Kd.R_celln 0 zb.out (x7_2 : Int) p16 q16
     replace p16 := eq_true p16
     replace q16 := eq_true q16
     have HP17 := Kd.R_putg zb.out (x7_2 : Int) (Int.tmod x1_2 (rd l0 x7_2))
     go_wp2_with (first | ((with_reducible refine gate_store (t := 3) (p := 34) rfl ?_); refine store_event (t := 3) (p := 34) (v := ?vo_w18) (w1 := (wr.setCell ⟨go16, (x7_2 : Int).toNat, none⟩ (.int .i64 (Int.tmod x1_2 (rd l0 x7_2))))) ?hg ?ho ?hn ?hr ?_; (case ho => rfl); (case hg => rfl); (case hn => rfl); (case hr => first | (go_simp; done) | (go_simp; rfl)); intro w18 hw; have hg : wr.grownBy w18 (some go16) := (by rw [hw]; exact HP17.2); have hp_ : Kd.R (Kd.int .i64) 3 w18 w.heap.size (fun _ => True) (.slice (some ⟨go16, 0, none⟩) x6_2.length co16) zg := (by rw [hw, Ny368.out]; exact HP17.1); clear HP17; replace zb := aM (hp_); replace HB := aM ((by rw [hw]; exact below_set (HB.out) GB16.out : Below w.heap.size w w18)); clear hg hw hp_; have p369 : 0 ≤ (x7_2 : Int) := of_decide_eq_true pD; have q369 : x7_2 < (l0.length : Int) := of_decide_eq_true pD; obtain ⟨ad369, e369, hx369_0⟩ := Kd.at_int HR0.out x7_2 p369 q369; obtain rfl : ad367 = ad369 := (by injection e369); replace hx369_0 := (HB.out.cell (World.block_lt_of_cell? w _ hx369_0)).trans hx369_0; replace p369 := eq_true p369; replace q369 := eq_true q369))
     go_roundg k2
     case measure => have := HJ2.out; have := HK2.out; omega
     case rel => exact ⟨(wrap64 (Int.tdiv x1_2 (rd l0 x7_2))), (zg), (wrap64 (x7_2 - 1)), (pF), (pF), H', ⟨by have := HJ2.out; have := HK2.out; omega⟩, ⟨pR zb.out⟩, ⟨qB HB⟩⟩
end Go.Proofs.Yticcamciaohepaa.Q
