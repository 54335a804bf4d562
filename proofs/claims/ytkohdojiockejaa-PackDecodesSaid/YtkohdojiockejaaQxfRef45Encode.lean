-- By wip/gprint.py (this session's), out of the kit's print.py.
import Derived.Test.YtkohdojiockejaaQx0
import Derived.Test.YtkohdojiockejaaQxfRef45Command
import Derived.Test.YtkohdojiockejaaQxfRef45Number
namespace Go.Proofs.Ytkohdojiockejaa.Q
open Go.RowKit Go.Proofs.YtkohdojiockejaaW.PrintWords Go.Proofs.YtkohdojiockejaaW.PrintLast Go.Proofs.YtkohdojiockejaaW.PrintMore
attribute [local go_sem] max2_int min2_int max_two min_two max_three min_three max_four min_four   -- for this text's walks alone
set_option linter.unusedVariables false
set_option linter.unusedSimpArgs false

/-! ### gradineref45_Encode: function 9 -/
def gradineref45_Encode.l0 : Nat → List (S45) → List Int → Int → Int → Option (List Int × Int)
 | 0, _, _, _, _ => none
 | k + 1, x0, x4, x13, x14 => if x14 < x13 then (if 0 ≤ x14 then (if x14 < (x0.length : Int) then (if (((rd_T45 x0 x14).f3).length : Int) > 256 then (some (([] : List Int), 3)) else (if (((rd_T45 x0 x14).f4.f9).length : Int) > 256 then (some (([] : List Int), 3)) else (if (((rd_T45 x0 x14).f5).length : Int) > 256 then (some (([] : List Int), 3)) else (if (((rd_T45 x0 x14).f6).length : Int) > 256 then (some (([] : List Int), 3)) else ((gradineref45_command.f k ((rd_T45 x0 x14).f0) ((rd_T45 x0 x14).f1) ((rd_T45 x0 x14).f2) ((rd_T45 x0 x14).f3) ((rd_T45 x0 x14).f4.f0) ((rd_T45 x0 x14).f4.f1) ((rd_T45 x0 x14).f4.f2) ((rd_T45 x0 x14).f4.f3) ((rd_T45 x0 x14).f4.f4) ((rd_T45 x0 x14).f4.f5) ((rd_T45 x0 x14).f4.f6) ((rd_T45 x0 x14).f4.f7) ((rd_T45 x0 x14).f4.f8) ((rd_T45 x0 x14).f4.f9) ((rd_T45 x0 x14).f5) ((rd_T45 x0 x14).f6) ((rd_T45 x0 x14).f7)).bind fun zq => (if x4.length + zq.length < 140737488355328 then (gradineref45_Encode.l0 k x0 (x4 ++ zq) x13 (wrap64 (x14 + 1))) else (none))))))) else (none)) else (none)) else (some (x4, 0))
def gradineref45_Encode.f (k : Nat) (l0 : List (S45)) : Option (List Int × Int) := if (l0.length : Int) > 200 then (some (([] : List Int), 3)) else ((gradineref45_Number.f k (l0.length : Int)).bind fun z0 => (gradineref45_Encode.l0 k l0 z0 (l0.length : Int) 0))
set_option maxHeartbeats 8000000 in
set_option maxRecDepth 100000 in
theorem gradineref45_Encode.calls (k : Nat) (A0 : Option Addr) (c0 : Nat) (l0 : List (S45)) (r1 : List Int) (r2 : Int) (w : World) (hr0 : Kd.C k45 w A0 l0.length l0) (hc0 : l0.length ≤ c0) (h : gradineref45_Encode.f k l0 = some (r1, r2)) :
  Calls Try.prog 9 #[.slice A0 l0.length c0] w fun e w' => ∃ v0_ : Value, e = .returned (.tuple #[v0_, .int .i64 r2]) ∧ Kd.R (Kd.int .u8) 5 w' w.heap.size (fun _ => True) v0_ r1 ∧ Below w.heap.size w w' := by
 have hu45 := Try.underlying45
 have HR0 := aM hr0
 have HC0 := aM hc0
 clear hr0 hc0
 have HB := aM (Below.refl w.heap.size w)
 have H : (if (l0.length : Int) > 200 then (some (([] : List Int), 3)) else ((gradineref45_Number.f k (l0.length : Int)).bind fun z0 => (gradineref45_Encode.l0 k l0 z0 (l0.length : Int) 0))) = some (r1, r2) := h
 clear h
 by_cases c2 : (l0.length : Int) > 200
 ·rw [if_pos c2] at H
  have z3 : decide (200 < (l0.length : Int)) = true := decide_eq_true c2
  have z4 : decide (200 < l0.length) = true := decide_eq_true (by omega)
  clear c2
  simp only [Option.some.injEq, Prod.mk.injEq] at H
  obtain ⟨rfl, rfl⟩ := H
  go_enter Try.func9, Try.ntmps9
  go_wp2
  go_ret2
  exact ⟨_, pE, pN, qB HB⟩
 rw [if_neg c2] at H
 have z3 : decide (200 < (l0.length : Int)) = false := decide_eq_false c2
 have z4 : decide (200 < l0.length) = false := decide_eq_false (by omega)
 clear c2
 replace H := Option.bind_eq_some_iff.mp H
 obtain ⟨z0, A30, H⟩ := H
 try dsimp only at H
 have A3 := aM A30
 clear A30
 have H' := aM H
 clear H
 go_enter Try.func9, Try.ntmps9
 go_wp2_with (first | ((with_reducible refine gate_callee (f := 17) rfl ?_); refine goesL_ (some 11) rfl rfl Try.func17 (by kernel_rfl) rfl #[.int .i64 (l0.length : Int)] rfl pA ?_; (with_reducible refine (gradineref45_Number.calls k (l0.length : Int) z0 _ A3.out).mono ?_); rintro e w4 ⟨v226, rfl, ho0, hb⟩; refine ⟨_, rfl, ?_⟩; have HO227 := aM (Kd.R_lower ho0 (below_size (qB HB))); replace HB := bS (qB HB) hb; (try clear hb); (try clear hk); (try clear hi); (try clear ho0)))
 go_loopg [4, 14] k (fun kq v4 v14 w' => ∃ (x4_1 : List Int) (x14_1 : Int), v14 = .int .i64 x14_1 ∧ Aside0 (gradineref45_Encode.l0 kq l0 x4_1 (l0.length : Int) x14_1 = some (r1, r2)) ∧ Aside0 (kq ≤ k) ∧ Aside0 (Kd.R (Kd.int .u8) 5 w' w.heap.size (fun _ => True) v4 x4_1) ∧ Aside0 (Below w.heap.size w w'))
 case atStart => exact ⟨(z0), (0), (pF), H', ⟨Nat.le_refl _⟩, ⟨pR HO227.out⟩, ⟨qB HB⟩⟩
 case round =>
  clear H'
  try clear z3
  try clear z4
  obtain ⟨x4_1, x14_1, rfl, HA, HK1, z1, HB⟩ := hrel
  cases gk with
  | zero => exact absurd HA.out (by simp [gradineref45_Encode.l0])
  | succ k1 =>
   have H := HA.out
   clear HA
   simp only [gradineref45_Encode.l0] at H
   by_cases c5 : x14_1 < (l0.length : Int)
   rotate_left
   ·rw [if_neg c5] at H
    have c5b0 : decide (x14_1 < (l0.length : Int)) = false := decide_eq_false c5
    clear c5
    simp only [Option.some.injEq, Prod.mk.injEq] at H
    obtain ⟨rfl, rfl⟩ := H
    go_wp2
    go_ret2
    exact ⟨_, pE, pR z1.out, qB HB⟩

   rw [if_pos c5] at H
   have c5b0 : decide (x14_1 < (l0.length : Int)) = true := decide_eq_true c5
   clear c5
   by_cases c6 : 0 ≤ x14_1
   rotate_left
   ·rw [if_neg c6] at H
    exact absurd H (by simp)
   rw [if_pos c6] at H
   have c6b0 : decide (0 ≤ x14_1) = true := decide_eq_true c6
   clear c6
   by_cases c7 : x14_1 < (l0.length : Int)
   rotate_left
   ·rw [if_neg c7] at H
    exact absurd H (by simp)
   rw [if_pos c7] at H
   have c7b0 : decide (x14_1 < (l0.length : Int)) = true := decide_eq_true c7
   clear c7
   by_cases c8 : (((rd_T45 l0 x14_1).f3).length : Int) > 256
   ·rw [if_pos c8] at H
    have c8b0 : decide (256 < (((rd_T45 l0 x14_1).f3).length : Int)) = true := decide_eq_true c8
    have c8b1 : decide (256 < ((rd_T45 l0 x14_1).f3).length) = true := decide_eq_true (by omega)
    clear c8
    simp only [Option.some.injEq, Prod.mk.injEq] at H
    obtain ⟨rfl, rfl⟩ := H
    have p228 : 0 ≤ (x14_1 : Int) := of_decide_eq_true pD
    have q228 : x14_1 < (l0.length : Int) := of_decide_eq_true pD
    obtain ⟨ad228, A228_3, c228_3, A228_13, c228_13, A228_14, c228_14, A228_15, c228_15, e228, hx228_0, hx228_1, hx228_2, hx228_3, hx228_4, hx228_5, hx228_6, hx228_7, hx228_8, hx228_9, hx228_10, hx228_11, hx228_12, hx228_13, hx228_14, hx228_15, hx228_16, hl228_3, hi228_3, hl228_13, hi228_13, hl228_14, hi228_14, hl228_15, hi228_15⟩ := at_T45 HR0.out x14_1 p228 q228
    cases e228
    replace hx228_0 := (HB.out.cell (World.block_lt_of_cell? w _ hx228_0)).trans hx228_0
    replace hx228_1 := (HB.out.cell (World.block_lt_of_cell? w _ hx228_1)).trans hx228_1
    replace hx228_2 := (HB.out.cell (World.block_lt_of_cell? w _ hx228_2)).trans hx228_2
    replace hx228_3 := (HB.out.cell (World.block_lt_of_cell? w _ hx228_3)).trans hx228_3
    replace hx228_4 := (HB.out.cell (World.block_lt_of_cell? w _ hx228_4)).trans hx228_4
    replace hx228_5 := (HB.out.cell (World.block_lt_of_cell? w _ hx228_5)).trans hx228_5
    replace hx228_6 := (HB.out.cell (World.block_lt_of_cell? w _ hx228_6)).trans hx228_6
    replace hx228_7 := (HB.out.cell (World.block_lt_of_cell? w _ hx228_7)).trans hx228_7
    replace hx228_8 := (HB.out.cell (World.block_lt_of_cell? w _ hx228_8)).trans hx228_8
    replace hx228_9 := (HB.out.cell (World.block_lt_of_cell? w _ hx228_9)).trans hx228_9
    replace hx228_10 := (HB.out.cell (World.block_lt_of_cell? w _ hx228_10)).trans hx228_10
    replace hx228_11 := (HB.out.cell (World.block_lt_of_cell? w _ hx228_11)).trans hx228_11
    replace hx228_12 := (HB.out.cell (World.block_lt_of_cell? w _ hx228_12)).trans hx228_12
    replace hx228_13 := (HB.out.cell (World.block_lt_of_cell? w _ hx228_13)).trans hx228_13
    replace hx228_14 := (HB.out.cell (World.block_lt_of_cell? w _ hx228_14)).trans hx228_14
    replace hx228_15 := (HB.out.cell (World.block_lt_of_cell? w _ hx228_15)).trans hx228_15
    replace hx228_16 := (HB.out.cell (World.block_lt_of_cell? w _ hx228_16)).trans hx228_16
    have zg := aM hi228_3
    have zh := aM hl228_3
    clear hi228_3 hl228_3
    have za := aM hi228_13
    have zb := aM hl228_13
    clear hi228_13 hl228_13
    have zc := aM hi228_14
    have zd := aM hl228_14
    clear hi228_14 hl228_14
    have ze := aM hi228_15
    have zf := aM hl228_15
    clear hi228_15 hl228_15
    replace p228 := eq_true p228
    replace q228 := eq_true q228
    go_wp2
    go_ret2
    exact ⟨_, pE, pN, qB HB⟩
   rw [if_neg c8] at H
   have c8b0 : decide (256 < (((rd_T45 l0 x14_1).f3).length : Int)) = false := decide_eq_false c8
   have c8b1 : decide (256 < ((rd_T45 l0 x14_1).f3).length) = false := decide_eq_false (by omega)
   clear c8
   by_cases c9 : (((rd_T45 l0 x14_1).f4.f9).length : Int) > 256
   ·rw [if_pos c9] at H
    have c9b0 : decide (256 < (((rd_T45 l0 x14_1).f4.f9).length : Int)) = true := decide_eq_true c9
    have c9b1 : decide (256 < ((rd_T45 l0 x14_1).f4.f9).length) = true := decide_eq_true (by omega)
    clear c9
    simp only [Option.some.injEq, Prod.mk.injEq] at H
    obtain ⟨rfl, rfl⟩ := H
    have p228 : 0 ≤ (x14_1 : Int) := of_decide_eq_true pD
    have q228 : x14_1 < (l0.length : Int) := of_decide_eq_true pD
    obtain ⟨ad228, A228_3, c228_3, A228_13, c228_13, A228_14, c228_14, A228_15, c228_15, e228, hx228_0, hx228_1, hx228_2, hx228_3, hx228_4, hx228_5, hx228_6, hx228_7, hx228_8, hx228_9, hx228_10, hx228_11, hx228_12, hx228_13, hx228_14, hx228_15, hx228_16, hl228_3, hi228_3, hl228_13, hi228_13, hl228_14, hi228_14, hl228_15, hi228_15⟩ := at_T45 HR0.out x14_1 p228 q228
    cases e228
    replace hx228_0 := (HB.out.cell (World.block_lt_of_cell? w _ hx228_0)).trans hx228_0
    replace hx228_1 := (HB.out.cell (World.block_lt_of_cell? w _ hx228_1)).trans hx228_1
    replace hx228_2 := (HB.out.cell (World.block_lt_of_cell? w _ hx228_2)).trans hx228_2
    replace hx228_3 := (HB.out.cell (World.block_lt_of_cell? w _ hx228_3)).trans hx228_3
    replace hx228_4 := (HB.out.cell (World.block_lt_of_cell? w _ hx228_4)).trans hx228_4
    replace hx228_5 := (HB.out.cell (World.block_lt_of_cell? w _ hx228_5)).trans hx228_5
    replace hx228_6 := (HB.out.cell (World.block_lt_of_cell? w _ hx228_6)).trans hx228_6
    replace hx228_7 := (HB.out.cell (World.block_lt_of_cell? w _ hx228_7)).trans hx228_7
    replace hx228_8 := (HB.out.cell (World.block_lt_of_cell? w _ hx228_8)).trans hx228_8
    replace hx228_9 := (HB.out.cell (World.block_lt_of_cell? w _ hx228_9)).trans hx228_9
    replace hx228_10 := (HB.out.cell (World.block_lt_of_cell? w _ hx228_10)).trans hx228_10
    replace hx228_11 := (HB.out.cell (World.block_lt_of_cell? w _ hx228_11)).trans hx228_11
    replace hx228_12 := (HB.out.cell (World.block_lt_of_cell? w _ hx228_12)).trans hx228_12
    replace hx228_13 := (HB.out.cell (World.block_lt_of_cell? w _ hx228_13)).trans hx228_13
    replace hx228_14 := (HB.out.cell (World.block_lt_of_cell? w _ hx228_14)).trans hx228_14
    replace hx228_15 := (HB.out.cell (World.block_lt_of_cell? w _ hx228_15)).trans hx228_15
    replace hx228_16 := (HB.out.cell (World.block_lt_of_cell? w _ hx228_16)).trans hx228_16
    have zg := aM hi228_3
    have zh := aM hl228_3
    clear hi228_3 hl228_3
    have za := aM hi228_13
    have zb := aM hl228_13
    clear hi228_13 hl228_13
    have zc := aM hi228_14
    have zd := aM hl228_14
    clear hi228_14 hl228_14
    have ze := aM hi228_15
    have zf := aM hl228_15
    clear hi228_15 hl228_15
    replace p228 := eq_true p228
    replace q228 := eq_true q228
    have p229 : 0 ≤ (x14_1 : Int) := of_decide_eq_true pD
    have q229 : x14_1 < (l0.length : Int) := of_decide_eq_true pD
    obtain ⟨ad229, A229_3, c229_3, A229_13, c229_13, A229_14, c229_14, A229_15, c229_15, e229, hx229_0, hx229_1, hx229_2, hx229_3, hx229_4, hx229_5, hx229_6, hx229_7, hx229_8, hx229_9, hx229_10, hx229_11, hx229_12, hx229_13, hx229_14, hx229_15, hx229_16, hl229_3, hi229_3, hl229_13, hi229_13, hl229_14, hi229_14, hl229_15, hi229_15⟩ := at_T45 HR0.out x14_1 p229 q229
    obtain rfl : ad228 = ad229 := (by injection e229)
    replace hx229_0 := (HB.out.cell (World.block_lt_of_cell? w _ hx229_0)).trans hx229_0
    replace hx229_1 := (HB.out.cell (World.block_lt_of_cell? w _ hx229_1)).trans hx229_1
    replace hx229_2 := (HB.out.cell (World.block_lt_of_cell? w _ hx229_2)).trans hx229_2
    replace hx229_3 := (HB.out.cell (World.block_lt_of_cell? w _ hx229_3)).trans hx229_3
    replace hx229_4 := (HB.out.cell (World.block_lt_of_cell? w _ hx229_4)).trans hx229_4
    replace hx229_5 := (HB.out.cell (World.block_lt_of_cell? w _ hx229_5)).trans hx229_5
    replace hx229_6 := (HB.out.cell (World.block_lt_of_cell? w _ hx229_6)).trans hx229_6
    replace hx229_7 := (HB.out.cell (World.block_lt_of_cell? w _ hx229_7)).trans hx229_7
    replace hx229_8 := (HB.out.cell (World.block_lt_of_cell? w _ hx229_8)).trans hx229_8
    replace hx229_9 := (HB.out.cell (World.block_lt_of_cell? w _ hx229_9)).trans hx229_9
    replace hx229_10 := (HB.out.cell (World.block_lt_of_cell? w _ hx229_10)).trans hx229_10
    replace hx229_11 := (HB.out.cell (World.block_lt_of_cell? w _ hx229_11)).trans hx229_11
    replace hx229_12 := (HB.out.cell (World.block_lt_of_cell? w _ hx229_12)).trans hx229_12
    replace hx229_13 := (HB.out.cell (World.block_lt_of_cell? w _ hx229_13)).trans hx229_13
    replace hx229_14 := (HB.out.cell (World.block_lt_of_cell? w _ hx229_14)).trans hx229_14
    replace hx229_15 := (HB.out.cell (World.block_lt_of_cell? w _ hx229_15)).trans hx229_15
    replace hx229_16 := (HB.out.cell (World.block_lt_of_cell? w _ hx229_16)).trans hx229_16
    have zo := aM hi229_3
    have zp := aM hl229_3
    clear hi229_3 hl229_3
    have zi := aM hi229_13
    have zj := aM hl229_13
    clear hi229_13 hl229_13
    have zk := aM hi229_14
    have zl := aM hl229_14
    clear hi229_14 hl229_14
    have zm := aM hi229_15
    have zn := aM hl229_15
    clear hi229_15 hl229_15
    replace p229 := eq_true p229
    replace q229 := eq_true q229
    have ea_ := Option.some.inj (hx228_3.symm.trans hx229_3)
    injection ea_ with ea_ en_ ec_
    subst ea_
    subst ec_
    clear en_
    have ea_ := Option.some.inj (hx228_13.symm.trans hx229_13)
    injection ea_ with ea_ en_ ec_
    subst ea_
    subst ec_
    clear en_
    have ea_ := Option.some.inj (hx228_14.symm.trans hx229_14)
    injection ea_ with ea_ en_ ec_
    subst ea_
    subst ec_
    clear en_
    have ea_ := Option.some.inj (hx228_15.symm.trans hx229_15)
    injection ea_ with ea_ en_ ec_
    subst ea_
    subst ec_
    clear en_
    go_wp2
    go_ret2
    exact ⟨_, pE, pN, qB HB⟩
   rw [if_neg c9] at H
   have c9b0 : decide (256 < (((rd_T45 l0 x14_1).f4.f9).length : Int)) = false := decide_eq_false c9
   have c9b1 : decide (256 < ((rd_T45 l0 x14_1).f4.f9).length) = false := decide_eq_false (by omega)
   clear c9
   by_cases c10 : (((rd_T45 l0 x14_1).f5).length : Int) > 256
   ·rw [if_pos c10] at H
    have c10b0 : decide (256 < (((rd_T45 l0 x14_1).f5).length : Int)) = true := decide_eq_true c10
    have c10b1 : decide (256 < ((rd_T45 l0 x14_1).f5).length) = true := decide_eq_true (by omega)
    clear c10
    simp only [Option.some.injEq, Prod.mk.injEq] at H
    obtain ⟨rfl, rfl⟩ := H
    have p228 : 0 ≤ (x14_1 : Int) := of_decide_eq_true pD
    have q228 : x14_1 < (l0.length : Int) := of_decide_eq_true pD
    obtain ⟨ad228, A228_3, c228_3, A228_13, c228_13, A228_14, c228_14, A228_15, c228_15, e228, hx228_0, hx228_1, hx228_2, hx228_3, hx228_4, hx228_5, hx228_6, hx228_7, hx228_8, hx228_9, hx228_10, hx228_11, hx228_12, hx228_13, hx228_14, hx228_15, hx228_16, hl228_3, hi228_3, hl228_13, hi228_13, hl228_14, hi228_14, hl228_15, hi228_15⟩ := at_T45 HR0.out x14_1 p228 q228
    cases e228
    replace hx228_0 := (HB.out.cell (World.block_lt_of_cell? w _ hx228_0)).trans hx228_0
    replace hx228_1 := (HB.out.cell (World.block_lt_of_cell? w _ hx228_1)).trans hx228_1
    replace hx228_2 := (HB.out.cell (World.block_lt_of_cell? w _ hx228_2)).trans hx228_2
    replace hx228_3 := (HB.out.cell (World.block_lt_of_cell? w _ hx228_3)).trans hx228_3
    replace hx228_4 := (HB.out.cell (World.block_lt_of_cell? w _ hx228_4)).trans hx228_4
    replace hx228_5 := (HB.out.cell (World.block_lt_of_cell? w _ hx228_5)).trans hx228_5
    replace hx228_6 := (HB.out.cell (World.block_lt_of_cell? w _ hx228_6)).trans hx228_6
    replace hx228_7 := (HB.out.cell (World.block_lt_of_cell? w _ hx228_7)).trans hx228_7
    replace hx228_8 := (HB.out.cell (World.block_lt_of_cell? w _ hx228_8)).trans hx228_8
    replace hx228_9 := (HB.out.cell (World.block_lt_of_cell? w _ hx228_9)).trans hx228_9
    replace hx228_10 := (HB.out.cell (World.block_lt_of_cell? w _ hx228_10)).trans hx228_10
    replace hx228_11 := (HB.out.cell (World.block_lt_of_cell? w _ hx228_11)).trans hx228_11
    replace hx228_12 := (HB.out.cell (World.block_lt_of_cell? w _ hx228_12)).trans hx228_12
    replace hx228_13 := (HB.out.cell (World.block_lt_of_cell? w _ hx228_13)).trans hx228_13
    replace hx228_14 := (HB.out.cell (World.block_lt_of_cell? w _ hx228_14)).trans hx228_14
    replace hx228_15 := (HB.out.cell (World.block_lt_of_cell? w _ hx228_15)).trans hx228_15
    replace hx228_16 := (HB.out.cell (World.block_lt_of_cell? w _ hx228_16)).trans hx228_16
    have zg := aM hi228_3
    have zh := aM hl228_3
    clear hi228_3 hl228_3
    have za := aM hi228_13
    have zb := aM hl228_13
    clear hi228_13 hl228_13
    have zc := aM hi228_14
    have zd := aM hl228_14
    clear hi228_14 hl228_14
    have ze := aM hi228_15
    have zf := aM hl228_15
    clear hi228_15 hl228_15
    replace p228 := eq_true p228
    replace q228 := eq_true q228
    have p229 : 0 ≤ (x14_1 : Int) := of_decide_eq_true pD
    have q229 : x14_1 < (l0.length : Int) := of_decide_eq_true pD
    obtain ⟨ad229, A229_3, c229_3, A229_13, c229_13, A229_14, c229_14, A229_15, c229_15, e229, hx229_0, hx229_1, hx229_2, hx229_3, hx229_4, hx229_5, hx229_6, hx229_7, hx229_8, hx229_9, hx229_10, hx229_11, hx229_12, hx229_13, hx229_14, hx229_15, hx229_16, hl229_3, hi229_3, hl229_13, hi229_13, hl229_14, hi229_14, hl229_15, hi229_15⟩ := at_T45 HR0.out x14_1 p229 q229
    obtain rfl : ad228 = ad229 := (by injection e229)
    replace hx229_0 := (HB.out.cell (World.block_lt_of_cell? w _ hx229_0)).trans hx229_0
    replace hx229_1 := (HB.out.cell (World.block_lt_of_cell? w _ hx229_1)).trans hx229_1
    replace hx229_2 := (HB.out.cell (World.block_lt_of_cell? w _ hx229_2)).trans hx229_2
    replace hx229_3 := (HB.out.cell (World.block_lt_of_cell? w _ hx229_3)).trans hx229_3
    replace hx229_4 := (HB.out.cell (World.block_lt_of_cell? w _ hx229_4)).trans hx229_4
    replace hx229_5 := (HB.out.cell (World.block_lt_of_cell? w _ hx229_5)).trans hx229_5
    replace hx229_6 := (HB.out.cell (World.block_lt_of_cell? w _ hx229_6)).trans hx229_6
    replace hx229_7 := (HB.out.cell (World.block_lt_of_cell? w _ hx229_7)).trans hx229_7
    replace hx229_8 := (HB.out.cell (World.block_lt_of_cell? w _ hx229_8)).trans hx229_8
    replace hx229_9 := (HB.out.cell (World.block_lt_of_cell? w _ hx229_9)).trans hx229_9
    replace hx229_10 := (HB.out.cell (World.block_lt_of_cell? w _ hx229_10)).trans hx229_10
    replace hx229_11 := (HB.out.cell (World.block_lt_of_cell? w _ hx229_11)).trans hx229_11
    replace hx229_12 := (HB.out.cell (World.block_lt_of_cell? w _ hx229_12)).trans hx229_12
    replace hx229_13 := (HB.out.cell (World.block_lt_of_cell? w _ hx229_13)).trans hx229_13
    replace hx229_14 := (HB.out.cell (World.block_lt_of_cell? w _ hx229_14)).trans hx229_14
    replace hx229_15 := (HB.out.cell (World.block_lt_of_cell? w _ hx229_15)).trans hx229_15
    replace hx229_16 := (HB.out.cell (World.block_lt_of_cell? w _ hx229_16)).trans hx229_16
    have zo := aM hi229_3
    have zp := aM hl229_3
    clear hi229_3 hl229_3
    have zi := aM hi229_13
    have zj := aM hl229_13
    clear hi229_13 hl229_13
    have zk := aM hi229_14
    have zl := aM hl229_14
    clear hi229_14 hl229_14
    have zm := aM hi229_15
    have zn := aM hl229_15
    clear hi229_15 hl229_15
    replace p229 := eq_true p229
    replace q229 := eq_true q229
    have ea_ := Option.some.inj (hx228_3.symm.trans hx229_3)
    injection ea_ with ea_ en_ ec_
    subst ea_
    subst ec_
    clear en_
    have ea_ := Option.some.inj (hx228_13.symm.trans hx229_13)
    injection ea_ with ea_ en_ ec_
    subst ea_
    subst ec_
    clear en_
    have ea_ := Option.some.inj (hx228_14.symm.trans hx229_14)
    injection ea_ with ea_ en_ ec_
    subst ea_
    subst ec_
    clear en_
    have ea_ := Option.some.inj (hx228_15.symm.trans hx229_15)
    injection ea_ with ea_ en_ ec_
    subst ea_
    subst ec_
    clear en_
    have p230 : 0 ≤ (x14_1 : Int) := of_decide_eq_true pD
    have q230 : x14_1 < (l0.length : Int) := of_decide_eq_true pD
    obtain ⟨ad230, A230_3, c230_3, A230_13, c230_13, A230_14, c230_14, A230_15, c230_15, e230, hx230_0, hx230_1, hx230_2, hx230_3, hx230_4, hx230_5, hx230_6, hx230_7, hx230_8, hx230_9, hx230_10, hx230_11, hx230_12, hx230_13, hx230_14, hx230_15, hx230_16, hl230_3, hi230_3, hl230_13, hi230_13, hl230_14, hi230_14, hl230_15, hi230_15⟩ := at_T45 HR0.out x14_1 p230 q230
    obtain rfl : ad228 = ad230 := (by injection e230)
    replace hx230_0 := (HB.out.cell (World.block_lt_of_cell? w _ hx230_0)).trans hx230_0
    replace hx230_1 := (HB.out.cell (World.block_lt_of_cell? w _ hx230_1)).trans hx230_1
    replace hx230_2 := (HB.out.cell (World.block_lt_of_cell? w _ hx230_2)).trans hx230_2
    replace hx230_3 := (HB.out.cell (World.block_lt_of_cell? w _ hx230_3)).trans hx230_3
    replace hx230_4 := (HB.out.cell (World.block_lt_of_cell? w _ hx230_4)).trans hx230_4
    replace hx230_5 := (HB.out.cell (World.block_lt_of_cell? w _ hx230_5)).trans hx230_5
    replace hx230_6 := (HB.out.cell (World.block_lt_of_cell? w _ hx230_6)).trans hx230_6
    replace hx230_7 := (HB.out.cell (World.block_lt_of_cell? w _ hx230_7)).trans hx230_7
    replace hx230_8 := (HB.out.cell (World.block_lt_of_cell? w _ hx230_8)).trans hx230_8
    replace hx230_9 := (HB.out.cell (World.block_lt_of_cell? w _ hx230_9)).trans hx230_9
    replace hx230_10 := (HB.out.cell (World.block_lt_of_cell? w _ hx230_10)).trans hx230_10
    replace hx230_11 := (HB.out.cell (World.block_lt_of_cell? w _ hx230_11)).trans hx230_11
    replace hx230_12 := (HB.out.cell (World.block_lt_of_cell? w _ hx230_12)).trans hx230_12
    replace hx230_13 := (HB.out.cell (World.block_lt_of_cell? w _ hx230_13)).trans hx230_13
    replace hx230_14 := (HB.out.cell (World.block_lt_of_cell? w _ hx230_14)).trans hx230_14
    replace hx230_15 := (HB.out.cell (World.block_lt_of_cell? w _ hx230_15)).trans hx230_15
    replace hx230_16 := (HB.out.cell (World.block_lt_of_cell? w _ hx230_16)).trans hx230_16
    have zy := aM hi230_3
    have zz := aM hl230_3
    clear hi230_3 hl230_3
    have zr := aM hi230_13
    have zs := aM hl230_13
    clear hi230_13 hl230_13
    have zt := aM hi230_14
    have zu := aM hl230_14
    clear hi230_14 hl230_14
    have zv := aM hi230_15
    have zw := aM hl230_15
    clear hi230_15 hl230_15
    replace p230 := eq_true p230
    replace q230 := eq_true q230
    have ea_ := Option.some.inj (hx228_3.symm.trans hx230_3)
    injection ea_ with ea_ en_ ec_
    subst ea_
    subst ec_
    clear en_
    have ea_ := Option.some.inj (hx228_13.symm.trans hx230_13)
    injection ea_ with ea_ en_ ec_
    subst ea_
    subst ec_
    clear en_
    have ea_ := Option.some.inj (hx228_14.symm.trans hx230_14)
    injection ea_ with ea_ en_ ec_
    subst ea_
    subst ec_
    clear en_
    have ea_ := Option.some.inj (hx228_15.symm.trans hx230_15)
    injection ea_ with ea_ en_ ec_
    subst ea_
    subst ec_
    clear en_
    go_wp2
    go_ret2
    exact ⟨_, pE, pN, qB HB⟩
   rw [if_neg c10] at H
   have c10b0 : decide (256 < (((rd_T45 l0 x14_1).f5).length : Int)) = false := decide_eq_false c10
   have c10b1 : decide (256 < ((rd_T45 l0 x14_1).f5).length) = false := decide_eq_false (by omega)
   clear c10
   by_cases c11 : (((rd_T45 l0 x14_1).f6).length : Int) > 256
   ·rw [if_pos c11] at H
    have c11b0 : decide (256 < (((rd_T45 l0 x14_1).f6).length : Int)) = true := decide_eq_true c11
    have c11b1 : decide (256 < ((rd_T45 l0 x14_1).f6).length) = true := decide_eq_true (by omega)
    clear c11
    simp only [Option.some.injEq, Prod.mk.injEq] at H
    obtain ⟨rfl, rfl⟩ := H
    have p228 : 0 ≤ (x14_1 : Int) := of_decide_eq_true pD
    have q228 : x14_1 < (l0.length : Int) := of_decide_eq_true pD
    obtain ⟨ad228, A228_3, c228_3, A228_13, c228_13, A228_14, c228_14, A228_15, c228_15, e228, hx228_0, hx228_1, hx228_2, hx228_3, hx228_4, hx228_5, hx228_6, hx228_7, hx228_8, hx228_9, hx228_10, hx228_11, hx228_12, hx228_13, hx228_14, hx228_15, hx228_16, hl228_3, hi228_3, hl228_13, hi228_13, hl228_14, hi228_14, hl228_15, hi228_15⟩ := at_T45 HR0.out x14_1 p228 q228
    cases e228
    replace hx228_0 := (HB.out.cell (World.block_lt_of_cell? w _ hx228_0)).trans hx228_0
    replace hx228_1 := (HB.out.cell (World.block_lt_of_cell? w _ hx228_1)).trans hx228_1
    replace hx228_2 := (HB.out.cell (World.block_lt_of_cell? w _ hx228_2)).trans hx228_2
    replace hx228_3 := (HB.out.cell (World.block_lt_of_cell? w _ hx228_3)).trans hx228_3
    replace hx228_4 := (HB.out.cell (World.block_lt_of_cell? w _ hx228_4)).trans hx228_4
    replace hx228_5 := (HB.out.cell (World.block_lt_of_cell? w _ hx228_5)).trans hx228_5
    replace hx228_6 := (HB.out.cell (World.block_lt_of_cell? w _ hx228_6)).trans hx228_6
    replace hx228_7 := (HB.out.cell (World.block_lt_of_cell? w _ hx228_7)).trans hx228_7
    replace hx228_8 := (HB.out.cell (World.block_lt_of_cell? w _ hx228_8)).trans hx228_8
    replace hx228_9 := (HB.out.cell (World.block_lt_of_cell? w _ hx228_9)).trans hx228_9
    replace hx228_10 := (HB.out.cell (World.block_lt_of_cell? w _ hx228_10)).trans hx228_10
    replace hx228_11 := (HB.out.cell (World.block_lt_of_cell? w _ hx228_11)).trans hx228_11
    replace hx228_12 := (HB.out.cell (World.block_lt_of_cell? w _ hx228_12)).trans hx228_12
    replace hx228_13 := (HB.out.cell (World.block_lt_of_cell? w _ hx228_13)).trans hx228_13
    replace hx228_14 := (HB.out.cell (World.block_lt_of_cell? w _ hx228_14)).trans hx228_14
    replace hx228_15 := (HB.out.cell (World.block_lt_of_cell? w _ hx228_15)).trans hx228_15
    replace hx228_16 := (HB.out.cell (World.block_lt_of_cell? w _ hx228_16)).trans hx228_16
    have zg := aM hi228_3
    have zh := aM hl228_3
    clear hi228_3 hl228_3
    have za := aM hi228_13
    have zb := aM hl228_13
    clear hi228_13 hl228_13
    have zc := aM hi228_14
    have zd := aM hl228_14
    clear hi228_14 hl228_14
    have ze := aM hi228_15
    have zf := aM hl228_15
    clear hi228_15 hl228_15
    replace p228 := eq_true p228
    replace q228 := eq_true q228
    have p229 : 0 ≤ (x14_1 : Int) := of_decide_eq_true pD
    have q229 : x14_1 < (l0.length : Int) := of_decide_eq_true pD
    obtain ⟨ad229, A229_3, c229_3, A229_13, c229_13, A229_14, c229_14, A229_15, c229_15, e229, hx229_0, hx229_1, hx229_2, hx229_3, hx229_4, hx229_5, hx229_6, hx229_7, hx229_8, hx229_9, hx229_10, hx229_11, hx229_12, hx229_13, hx229_14, hx229_15, hx229_16, hl229_3, hi229_3, hl229_13, hi229_13, hl229_14, hi229_14, hl229_15, hi229_15⟩ := at_T45 HR0.out x14_1 p229 q229
    obtain rfl : ad228 = ad229 := (by injection e229)
    replace hx229_0 := (HB.out.cell (World.block_lt_of_cell? w _ hx229_0)).trans hx229_0
    replace hx229_1 := (HB.out.cell (World.block_lt_of_cell? w _ hx229_1)).trans hx229_1
    replace hx229_2 := (HB.out.cell (World.block_lt_of_cell? w _ hx229_2)).trans hx229_2
    replace hx229_3 := (HB.out.cell (World.block_lt_of_cell? w _ hx229_3)).trans hx229_3
    replace hx229_4 := (HB.out.cell (World.block_lt_of_cell? w _ hx229_4)).trans hx229_4
    replace hx229_5 := (HB.out.cell (World.block_lt_of_cell? w _ hx229_5)).trans hx229_5
    replace hx229_6 := (HB.out.cell (World.block_lt_of_cell? w _ hx229_6)).trans hx229_6
    replace hx229_7 := (HB.out.cell (World.block_lt_of_cell? w _ hx229_7)).trans hx229_7
    replace hx229_8 := (HB.out.cell (World.block_lt_of_cell? w _ hx229_8)).trans hx229_8
    replace hx229_9 := (HB.out.cell (World.block_lt_of_cell? w _ hx229_9)).trans hx229_9
    replace hx229_10 := (HB.out.cell (World.block_lt_of_cell? w _ hx229_10)).trans hx229_10
    replace hx229_11 := (HB.out.cell (World.block_lt_of_cell? w _ hx229_11)).trans hx229_11
    replace hx229_12 := (HB.out.cell (World.block_lt_of_cell? w _ hx229_12)).trans hx229_12
    replace hx229_13 := (HB.out.cell (World.block_lt_of_cell? w _ hx229_13)).trans hx229_13
    replace hx229_14 := (HB.out.cell (World.block_lt_of_cell? w _ hx229_14)).trans hx229_14
    replace hx229_15 := (HB.out.cell (World.block_lt_of_cell? w _ hx229_15)).trans hx229_15
    replace hx229_16 := (HB.out.cell (World.block_lt_of_cell? w _ hx229_16)).trans hx229_16
    have zo := aM hi229_3
    have zp := aM hl229_3
    clear hi229_3 hl229_3
    have zi := aM hi229_13
    have zj := aM hl229_13
    clear hi229_13 hl229_13
    have zk := aM hi229_14
    have zl := aM hl229_14
    clear hi229_14 hl229_14
    have zm := aM hi229_15
    have zn := aM hl229_15
    clear hi229_15 hl229_15
    replace p229 := eq_true p229
    replace q229 := eq_true q229
    have ea_ := Option.some.inj (hx228_3.symm.trans hx229_3)
    injection ea_ with ea_ en_ ec_
    subst ea_
    subst ec_
    clear en_
    have ea_ := Option.some.inj (hx228_13.symm.trans hx229_13)
    injection ea_ with ea_ en_ ec_
    subst ea_
    subst ec_
    clear en_
    have ea_ := Option.some.inj (hx228_14.symm.trans hx229_14)
    injection ea_ with ea_ en_ ec_
    subst ea_
    subst ec_
    clear en_
    have ea_ := Option.some.inj (hx228_15.symm.trans hx229_15)
    injection ea_ with ea_ en_ ec_
    subst ea_
    subst ec_
    clear en_
    have p230 : 0 ≤ (x14_1 : Int) := of_decide_eq_true pD
    have q230 : x14_1 < (l0.length : Int) := of_decide_eq_true pD
    obtain ⟨ad230, A230_3, c230_3, A230_13, c230_13, A230_14, c230_14, A230_15, c230_15, e230, hx230_0, hx230_1, hx230_2, hx230_3, hx230_4, hx230_5, hx230_6, hx230_7, hx230_8, hx230_9, hx230_10, hx230_11, hx230_12, hx230_13, hx230_14, hx230_15, hx230_16, hl230_3, hi230_3, hl230_13, hi230_13, hl230_14, hi230_14, hl230_15, hi230_15⟩ := at_T45 HR0.out x14_1 p230 q230
    obtain rfl : ad228 = ad230 := (by injection e230)
    replace hx230_0 := (HB.out.cell (World.block_lt_of_cell? w _ hx230_0)).trans hx230_0
    replace hx230_1 := (HB.out.cell (World.block_lt_of_cell? w _ hx230_1)).trans hx230_1
    replace hx230_2 := (HB.out.cell (World.block_lt_of_cell? w _ hx230_2)).trans hx230_2
    replace hx230_3 := (HB.out.cell (World.block_lt_of_cell? w _ hx230_3)).trans hx230_3
    replace hx230_4 := (HB.out.cell (World.block_lt_of_cell? w _ hx230_4)).trans hx230_4
    replace hx230_5 := (HB.out.cell (World.block_lt_of_cell? w _ hx230_5)).trans hx230_5
    replace hx230_6 := (HB.out.cell (World.block_lt_of_cell? w _ hx230_6)).trans hx230_6
    replace hx230_7 := (HB.out.cell (World.block_lt_of_cell? w _ hx230_7)).trans hx230_7
    replace hx230_8 := (HB.out.cell (World.block_lt_of_cell? w _ hx230_8)).trans hx230_8
    replace hx230_9 := (HB.out.cell (World.block_lt_of_cell? w _ hx230_9)).trans hx230_9
    replace hx230_10 := (HB.out.cell (World.block_lt_of_cell? w _ hx230_10)).trans hx230_10
    replace hx230_11 := (HB.out.cell (World.block_lt_of_cell? w _ hx230_11)).trans hx230_11
    replace hx230_12 := (HB.out.cell (World.block_lt_of_cell? w _ hx230_12)).trans hx230_12
    replace hx230_13 := (HB.out.cell (World.block_lt_of_cell? w _ hx230_13)).trans hx230_13
    replace hx230_14 := (HB.out.cell (World.block_lt_of_cell? w _ hx230_14)).trans hx230_14
    replace hx230_15 := (HB.out.cell (World.block_lt_of_cell? w _ hx230_15)).trans hx230_15
    replace hx230_16 := (HB.out.cell (World.block_lt_of_cell? w _ hx230_16)).trans hx230_16
    have zy := aM hi230_3
    have zz := aM hl230_3
    clear hi230_3 hl230_3
    have zr := aM hi230_13
    have zs := aM hl230_13
    clear hi230_13 hl230_13
    have zt := aM hi230_14
    have zu := aM hl230_14
    clear hi230_14 hl230_14
    have zv := aM hi230_15
    have zw := aM hl230_15
    clear hi230_15 hl230_15
    replace p230 := eq_true p230
    replace q230 := eq_true q230
    have ea_ := Option.some.inj (hx228_3.symm.trans hx230_3)
    injection ea_ with ea_ en_ ec_
    subst ea_
    subst ec_
    clear en_
    have ea_ := Option.some.inj (hx228_13.symm.trans hx230_13)
    injection ea_ with ea_ en_ ec_
    subst ea_
    subst ec_
    clear en_
    have ea_ := Option.some.inj (hx228_14.symm.trans hx230_14)
    injection ea_ with ea_ en_ ec_
    subst ea_
    subst ec_
    clear en_
    have ea_ := Option.some.inj (hx228_15.symm.trans hx230_15)
    injection ea_ with ea_ en_ ec_
    subst ea_
    subst ec_
    clear en_
    have p231 : 0 ≤ (x14_1 : Int) := of_decide_eq_true pD
    have q231 : x14_1 < (l0.length : Int) := of_decide_eq_true pD
    obtain ⟨ad231, A231_3, c231_3, A231_13, c231_13, A231_14, c231_14, A231_15, c231_15, e231, hx231_0, hx231_1, hx231_2, hx231_3, hx231_4, hx231_5, hx231_6, hx231_7, hx231_8, hx231_9, hx231_10, hx231_11, hx231_12, hx231_13, hx231_14, hx231_15, hx231_16, hl231_3, hi231_3, hl231_13, hi231_13, hl231_14, hi231_14, hl231_15, hi231_15⟩ := at_T45 HR0.out x14_1 p231 q231
    obtain rfl : ad228 = ad231 := (by injection e231)
    replace hx231_0 := (HB.out.cell (World.block_lt_of_cell? w _ hx231_0)).trans hx231_0
    replace hx231_1 := (HB.out.cell (World.block_lt_of_cell? w _ hx231_1)).trans hx231_1
    replace hx231_2 := (HB.out.cell (World.block_lt_of_cell? w _ hx231_2)).trans hx231_2
    replace hx231_3 := (HB.out.cell (World.block_lt_of_cell? w _ hx231_3)).trans hx231_3
    replace hx231_4 := (HB.out.cell (World.block_lt_of_cell? w _ hx231_4)).trans hx231_4
    replace hx231_5 := (HB.out.cell (World.block_lt_of_cell? w _ hx231_5)).trans hx231_5
    replace hx231_6 := (HB.out.cell (World.block_lt_of_cell? w _ hx231_6)).trans hx231_6
    replace hx231_7 := (HB.out.cell (World.block_lt_of_cell? w _ hx231_7)).trans hx231_7
    replace hx231_8 := (HB.out.cell (World.block_lt_of_cell? w _ hx231_8)).trans hx231_8
    replace hx231_9 := (HB.out.cell (World.block_lt_of_cell? w _ hx231_9)).trans hx231_9
    replace hx231_10 := (HB.out.cell (World.block_lt_of_cell? w _ hx231_10)).trans hx231_10
    replace hx231_11 := (HB.out.cell (World.block_lt_of_cell? w _ hx231_11)).trans hx231_11
    replace hx231_12 := (HB.out.cell (World.block_lt_of_cell? w _ hx231_12)).trans hx231_12
    replace hx231_13 := (HB.out.cell (World.block_lt_of_cell? w _ hx231_13)).trans hx231_13
    replace hx231_14 := (HB.out.cell (World.block_lt_of_cell? w _ hx231_14)).trans hx231_14
    replace hx231_15 := (HB.out.cell (World.block_lt_of_cell? w _ hx231_15)).trans hx231_15
    replace hx231_16 := (HB.out.cell (World.block_lt_of_cell? w _ hx231_16)).trans hx231_16
    have HR231_3 := aM hi231_3
    have HC231_3 := aM hl231_3
    clear hi231_3 hl231_3
    have HR231_13 := aM hi231_13
    have HC231_13 := aM hl231_13
    clear hi231_13 hl231_13
    have HR231_14 := aM hi231_14
    have HC231_14 := aM hl231_14
    clear hi231_14 hl231_14
    have HR231_15 := aM hi231_15
    have HC231_15 := aM hl231_15
    clear hi231_15 hl231_15
    replace p231 := eq_true p231
    replace q231 := eq_true q231
    have ea_ := Option.some.inj (hx228_3.symm.trans hx231_3)
    injection ea_ with ea_ en_ ec_
    subst ea_
    subst ec_
    clear en_
    have ea_ := Option.some.inj (hx228_13.symm.trans hx231_13)
    injection ea_ with ea_ en_ ec_
    subst ea_
    subst ec_
    clear en_
    have ea_ := Option.some.inj (hx228_14.symm.trans hx231_14)
    injection ea_ with ea_ en_ ec_
    subst ea_
    subst ec_
    clear en_
    have ea_ := Option.some.inj (hx228_15.symm.trans hx231_15)
    injection ea_ with ea_ en_ ec_
    subst ea_
    subst ec_
    clear en_
    go_wp2
    go_ret2
    exact ⟨_, pE, pN, qB HB⟩
   rw [if_neg c11] at H
   have c11b0 : decide (256 < (((rd_T45 l0 x14_1).f6).length : Int)) = false := decide_eq_false c11
   have c11b1 : decide (256 < ((rd_T45 l0 x14_1).f6).length) = false := decide_eq_false (by omega)
   clear c11
   replace H := Option.bind_eq_some_iff.mp H
   obtain ⟨zq, z5, H⟩ := H
   try dsimp only at H
   have A12 := aM z5
   clear z5
   by_cases c13 : x4_1.length + zq.length < 140737488355328
   rotate_left
   ·rw [if_neg c13] at H
    exact absurd H (by simp)
   rw [if_pos c13] at H
   have LMc13 := aM c13
   clear c13
   obtain ⟨z6, z2⟩ : ∃ y_ : List Int, y_ = (x4_1 ++ zq) := ⟨_, rfl⟩
   replace H : (gradineref45_Encode.l0 k1 l0 z6 (l0.length : Int) (wrap64 (x14_1 + 1))) = some (r1, r2) := pH z2 H
   have Ny236 := aM z2
   clear z2
   have H' := aM H
   clear H
   have p228 : 0 ≤ (x14_1 : Int) := of_decide_eq_true pD
   have q228 : x14_1 < (l0.length : Int) := of_decide_eq_true pD
   obtain ⟨ad228, A228_3, c228_3, A228_13, c228_13, A228_14, c228_14, A228_15, c228_15, e228, hx228_0, hx228_1, hx228_2, hx228_3, hx228_4, hx228_5, hx228_6, hx228_7, hx228_8, hx228_9, hx228_10, hx228_11, hx228_12, hx228_13, hx228_14, hx228_15, hx228_16, hl228_3, hi228_3, hl228_13, hi228_13, hl228_14, hi228_14, hl228_15, hi228_15⟩ := at_T45 HR0.out x14_1 p228 q228
   cases e228
   replace hx228_0 := (HB.out.cell (World.block_lt_of_cell? w _ hx228_0)).trans hx228_0
   replace hx228_1 := (HB.out.cell (World.block_lt_of_cell? w _ hx228_1)).trans hx228_1
   replace hx228_2 := (HB.out.cell (World.block_lt_of_cell? w _ hx228_2)).trans hx228_2
   replace hx228_3 := (HB.out.cell (World.block_lt_of_cell? w _ hx228_3)).trans hx228_3
   replace hx228_4 := (HB.out.cell (World.block_lt_of_cell? w _ hx228_4)).trans hx228_4
   replace hx228_5 := (HB.out.cell (World.block_lt_of_cell? w _ hx228_5)).trans hx228_5
   replace hx228_6 := (HB.out.cell (World.block_lt_of_cell? w _ hx228_6)).trans hx228_6
   replace hx228_7 := (HB.out.cell (World.block_lt_of_cell? w _ hx228_7)).trans hx228_7
   replace hx228_8 := (HB.out.cell (World.block_lt_of_cell? w _ hx228_8)).trans hx228_8
   replace hx228_9 := (HB.out.cell (World.block_lt_of_cell? w _ hx228_9)).trans hx228_9
   replace hx228_10 := (HB.out.cell (World.block_lt_of_cell? w _ hx228_10)).trans hx228_10
   replace hx228_11 := (HB.out.cell (World.block_lt_of_cell? w _ hx228_11)).trans hx228_11
   replace hx228_12 := (HB.out.cell (World.block_lt_of_cell? w _ hx228_12)).trans hx228_12
   replace hx228_13 := (HB.out.cell (World.block_lt_of_cell? w _ hx228_13)).trans hx228_13
   replace hx228_14 := (HB.out.cell (World.block_lt_of_cell? w _ hx228_14)).trans hx228_14
   replace hx228_15 := (HB.out.cell (World.block_lt_of_cell? w _ hx228_15)).trans hx228_15
   replace hx228_16 := (HB.out.cell (World.block_lt_of_cell? w _ hx228_16)).trans hx228_16
   have zg := aM hi228_3
   have zh := aM hl228_3
   clear hi228_3 hl228_3
   have za := aM hi228_13
   have zb := aM hl228_13
   clear hi228_13 hl228_13
   have zc := aM hi228_14
   have zd := aM hl228_14
   clear hi228_14 hl228_14
   have ze := aM hi228_15
   have zf := aM hl228_15
   clear hi228_15 hl228_15
   replace p228 := eq_true p228
   replace q228 := eq_true q228
   have p229 : 0 ≤ (x14_1 : Int) := of_decide_eq_true pD
   have q229 : x14_1 < (l0.length : Int) := of_decide_eq_true pD
   obtain ⟨ad229, A229_3, c229_3, A229_13, c229_13, A229_14, c229_14, A229_15, c229_15, e229, hx229_0, hx229_1, hx229_2, hx229_3, hx229_4, hx229_5, hx229_6, hx229_7, hx229_8, hx229_9, hx229_10, hx229_11, hx229_12, hx229_13, hx229_14, hx229_15, hx229_16, hl229_3, hi229_3, hl229_13, hi229_13, hl229_14, hi229_14, hl229_15, hi229_15⟩ := at_T45 HR0.out x14_1 p229 q229
   obtain rfl : ad228 = ad229 := (by injection e229)
   replace hx229_0 := (HB.out.cell (World.block_lt_of_cell? w _ hx229_0)).trans hx229_0
   replace hx229_1 := (HB.out.cell (World.block_lt_of_cell? w _ hx229_1)).trans hx229_1
   replace hx229_2 := (HB.out.cell (World.block_lt_of_cell? w _ hx229_2)).trans hx229_2
   replace hx229_3 := (HB.out.cell (World.block_lt_of_cell? w _ hx229_3)).trans hx229_3
   replace hx229_4 := (HB.out.cell (World.block_lt_of_cell? w _ hx229_4)).trans hx229_4
   replace hx229_5 := (HB.out.cell (World.block_lt_of_cell? w _ hx229_5)).trans hx229_5
   replace hx229_6 := (HB.out.cell (World.block_lt_of_cell? w _ hx229_6)).trans hx229_6
   replace hx229_7 := (HB.out.cell (World.block_lt_of_cell? w _ hx229_7)).trans hx229_7
   replace hx229_8 := (HB.out.cell (World.block_lt_of_cell? w _ hx229_8)).trans hx229_8
   replace hx229_9 := (HB.out.cell (World.block_lt_of_cell? w _ hx229_9)).trans hx229_9
   replace hx229_10 := (HB.out.cell (World.block_lt_of_cell? w _ hx229_10)).trans hx229_10
   replace hx229_11 := (HB.out.cell (World.block_lt_of_cell? w _ hx229_11)).trans hx229_11
   replace hx229_12 := (HB.out.cell (World.block_lt_of_cell? w _ hx229_12)).trans hx229_12
   replace hx229_13 := (HB.out.cell (World.block_lt_of_cell? w _ hx229_13)).trans hx229_13
   replace hx229_14 := (HB.out.cell (World.block_lt_of_cell? w _ hx229_14)).trans hx229_14
   replace hx229_15 := (HB.out.cell (World.block_lt_of_cell? w _ hx229_15)).trans hx229_15
   replace hx229_16 := (HB.out.cell (World.block_lt_of_cell? w _ hx229_16)).trans hx229_16
   have zo := aM hi229_3
   have zp := aM hl229_3
   clear hi229_3 hl229_3
   have zi := aM hi229_13
   have zj := aM hl229_13
   clear hi229_13 hl229_13
   have zk := aM hi229_14
   have zl := aM hl229_14
   clear hi229_14 hl229_14
   have zm := aM hi229_15
   have zn := aM hl229_15
   clear hi229_15 hl229_15
   replace p229 := eq_true p229
   replace q229 := eq_true q229
   have ea_ := Option.some.inj (hx228_3.symm.trans hx229_3)
   injection ea_ with ea_ en_ ec_
   subst ea_
   subst ec_
   clear en_
   have ea_ := Option.some.inj (hx228_13.symm.trans hx229_13)
   injection ea_ with ea_ en_ ec_
   subst ea_
   subst ec_
   clear en_
   have ea_ := Option.some.inj (hx228_14.symm.trans hx229_14)
   injection ea_ with ea_ en_ ec_
   subst ea_
   subst ec_
   clear en_
   have ea_ := Option.some.inj (hx228_15.symm.trans hx229_15)
   injection ea_ with ea_ en_ ec_
   subst ea_
   subst ec_
   clear en_
   have p230 : 0 ≤ (x14_1 : Int) := of_decide_eq_true pD
   have q230 : x14_1 < (l0.length : Int) := of_decide_eq_true pD
   obtain ⟨ad230, A230_3, c230_3, A230_13, c230_13, A230_14, c230_14, A230_15, c230_15, e230, hx230_0, hx230_1, hx230_2, hx230_3, hx230_4, hx230_5, hx230_6, hx230_7, hx230_8, hx230_9, hx230_10, hx230_11, hx230_12, hx230_13, hx230_14, hx230_15, hx230_16, hl230_3, hi230_3, hl230_13, hi230_13, hl230_14, hi230_14, hl230_15, hi230_15⟩ := at_T45 HR0.out x14_1 p230 q230
   obtain rfl : ad228 = ad230 := (by injection e230)
   replace hx230_0 := (HB.out.cell (World.block_lt_of_cell? w _ hx230_0)).trans hx230_0
   replace hx230_1 := (HB.out.cell (World.block_lt_of_cell? w _ hx230_1)).trans hx230_1
   replace hx230_2 := (HB.out.cell (World.block_lt_of_cell? w _ hx230_2)).trans hx230_2
   replace hx230_3 := (HB.out.cell (World.block_lt_of_cell? w _ hx230_3)).trans hx230_3
   replace hx230_4 := (HB.out.cell (World.block_lt_of_cell? w _ hx230_4)).trans hx230_4
   replace hx230_5 := (HB.out.cell (World.block_lt_of_cell? w _ hx230_5)).trans hx230_5
   replace hx230_6 := (HB.out.cell (World.block_lt_of_cell? w _ hx230_6)).trans hx230_6
   replace hx230_7 := (HB.out.cell (World.block_lt_of_cell? w _ hx230_7)).trans hx230_7
   replace hx230_8 := (HB.out.cell (World.block_lt_of_cell? w _ hx230_8)).trans hx230_8
   replace hx230_9 := (HB.out.cell (World.block_lt_of_cell? w _ hx230_9)).trans hx230_9
   replace hx230_10 := (HB.out.cell (World.block_lt_of_cell? w _ hx230_10)).trans hx230_10
   replace hx230_11 := (HB.out.cell (World.block_lt_of_cell? w _ hx230_11)).trans hx230_11
   replace hx230_12 := (HB.out.cell (World.block_lt_of_cell? w _ hx230_12)).trans hx230_12
   replace hx230_13 := (HB.out.cell (World.block_lt_of_cell? w _ hx230_13)).trans hx230_13
   replace hx230_14 := (HB.out.cell (World.block_lt_of_cell? w _ hx230_14)).trans hx230_14
   replace hx230_15 := (HB.out.cell (World.block_lt_of_cell? w _ hx230_15)).trans hx230_15
   replace hx230_16 := (HB.out.cell (World.block_lt_of_cell? w _ hx230_16)).trans hx230_16
   have zy := aM hi230_3
   have zz := aM hl230_3
   clear hi230_3 hl230_3
   have zr := aM hi230_13
   have zs := aM hl230_13
   clear hi230_13 hl230_13
   have zt := aM hi230_14
   have zu := aM hl230_14
   clear hi230_14 hl230_14
   have zv := aM hi230_15
   have zw := aM hl230_15
   clear hi230_15 hl230_15
   replace p230 := eq_true p230
   replace q230 := eq_true q230
   have ea_ := Option.some.inj (hx228_3.symm.trans hx230_3)
   injection ea_ with ea_ en_ ec_
   subst ea_
   subst ec_
   clear en_
   have ea_ := Option.some.inj (hx228_13.symm.trans hx230_13)
   injection ea_ with ea_ en_ ec_
   subst ea_
   subst ec_
   clear en_
   have ea_ := Option.some.inj (hx228_14.symm.trans hx230_14)
   injection ea_ with ea_ en_ ec_
   subst ea_
   subst ec_
   clear en_
   have ea_ := Option.some.inj (hx228_15.symm.trans hx230_15)
   injection ea_ with ea_ en_ ec_
   subst ea_
   subst ec_
   clear en_
   have p231 : 0 ≤ (x14_1 : Int) := of_decide_eq_true pD
   have q231 : x14_1 < (l0.length : Int) := of_decide_eq_true pD
   obtain ⟨ad231, A231_3, c231_3, A231_13, c231_13, A231_14, c231_14, A231_15, c231_15, e231, hx231_0, hx231_1, hx231_2, hx231_3, hx231_4, hx231_5, hx231_6, hx231_7, hx231_8, hx231_9, hx231_10, hx231_11, hx231_12, hx231_13, hx231_14, hx231_15, hx231_16, hl231_3, hi231_3, hl231_13, hi231_13, hl231_14, hi231_14, hl231_15, hi231_15⟩ := at_T45 HR0.out x14_1 p231 q231
   obtain rfl : ad228 = ad231 := (by injection e231)
   replace hx231_0 := (HB.out.cell (World.block_lt_of_cell? w _ hx231_0)).trans hx231_0
   replace hx231_1 := (HB.out.cell (World.block_lt_of_cell? w _ hx231_1)).trans hx231_1
   replace hx231_2 := (HB.out.cell (World.block_lt_of_cell? w _ hx231_2)).trans hx231_2
   replace hx231_3 := (HB.out.cell (World.block_lt_of_cell? w _ hx231_3)).trans hx231_3
   replace hx231_4 := (HB.out.cell (World.block_lt_of_cell? w _ hx231_4)).trans hx231_4
   replace hx231_5 := (HB.out.cell (World.block_lt_of_cell? w _ hx231_5)).trans hx231_5
   replace hx231_6 := (HB.out.cell (World.block_lt_of_cell? w _ hx231_6)).trans hx231_6
   replace hx231_7 := (HB.out.cell (World.block_lt_of_cell? w _ hx231_7)).trans hx231_7
   replace hx231_8 := (HB.out.cell (World.block_lt_of_cell? w _ hx231_8)).trans hx231_8
   replace hx231_9 := (HB.out.cell (World.block_lt_of_cell? w _ hx231_9)).trans hx231_9
   replace hx231_10 := (HB.out.cell (World.block_lt_of_cell? w _ hx231_10)).trans hx231_10
   replace hx231_11 := (HB.out.cell (World.block_lt_of_cell? w _ hx231_11)).trans hx231_11
   replace hx231_12 := (HB.out.cell (World.block_lt_of_cell? w _ hx231_12)).trans hx231_12
   replace hx231_13 := (HB.out.cell (World.block_lt_of_cell? w _ hx231_13)).trans hx231_13
   replace hx231_14 := (HB.out.cell (World.block_lt_of_cell? w _ hx231_14)).trans hx231_14
   replace hx231_15 := (HB.out.cell (World.block_lt_of_cell? w _ hx231_15)).trans hx231_15
   replace hx231_16 := (HB.out.cell (World.block_lt_of_cell? w _ hx231_16)).trans hx231_16
   have HR231_3 := aM hi231_3
   have HC231_3 := aM hl231_3
   clear hi231_3 hl231_3
   have HR231_13 := aM hi231_13
   have HC231_13 := aM hl231_13
   clear hi231_13 hl231_13
   have HR231_14 := aM hi231_14
   have HC231_14 := aM hl231_14
   clear hi231_14 hl231_14
   have HR231_15 := aM hi231_15
   have HC231_15 := aM hl231_15
   clear hi231_15 hl231_15
   replace p231 := eq_true p231
   replace q231 := eq_true q231
   have ea_ := Option.some.inj (hx228_3.symm.trans hx231_3)
   injection ea_ with ea_ en_ ec_
   subst ea_
   subst ec_
   clear en_
   have ea_ := Option.some.inj (hx228_13.symm.trans hx231_13)
   injection ea_ with ea_ en_ ec_
   subst ea_
   subst ec_
   clear en_
   have ea_ := Option.some.inj (hx228_14.symm.trans hx231_14)
   injection ea_ with ea_ en_ ec_
   subst ea_
   subst ec_
   clear en_
   have ea_ := Option.some.inj (hx228_15.symm.trans hx231_15)
   injection ea_ with ea_ en_ ec_
   subst ea_
   subst ec_
   clear en_
   have p232 : 0 ≤ (x14_1 : Int) := of_decide_eq_true pD
   have q232 : x14_1 < (l0.length : Int) := of_decide_eq_true pD
   obtain ⟨ad232, A232_3, c232_3, A232_13, c232_13, A232_14, c232_14, A232_15, c232_15, e232, hx232_0, hx232_1, hx232_2, hx232_3, hx232_4, hx232_5, hx232_6, hx232_7, hx232_8, hx232_9, hx232_10, hx232_11, hx232_12, hx232_13, hx232_14, hx232_15, hx232_16, hl232_3, hi232_3, hl232_13, hi232_13, hl232_14, hi232_14, hl232_15, hi232_15⟩ := at_T45 HR0.out x14_1 p232 q232
   obtain rfl : ad228 = ad232 := (by injection e232)
   replace hx232_0 := (HB.out.cell (World.block_lt_of_cell? w _ hx232_0)).trans hx232_0
   replace hx232_1 := (HB.out.cell (World.block_lt_of_cell? w _ hx232_1)).trans hx232_1
   replace hx232_2 := (HB.out.cell (World.block_lt_of_cell? w _ hx232_2)).trans hx232_2
   replace hx232_3 := (HB.out.cell (World.block_lt_of_cell? w _ hx232_3)).trans hx232_3
   replace hx232_4 := (HB.out.cell (World.block_lt_of_cell? w _ hx232_4)).trans hx232_4
   replace hx232_5 := (HB.out.cell (World.block_lt_of_cell? w _ hx232_5)).trans hx232_5
   replace hx232_6 := (HB.out.cell (World.block_lt_of_cell? w _ hx232_6)).trans hx232_6
   replace hx232_7 := (HB.out.cell (World.block_lt_of_cell? w _ hx232_7)).trans hx232_7
   replace hx232_8 := (HB.out.cell (World.block_lt_of_cell? w _ hx232_8)).trans hx232_8
   replace hx232_9 := (HB.out.cell (World.block_lt_of_cell? w _ hx232_9)).trans hx232_9
   replace hx232_10 := (HB.out.cell (World.block_lt_of_cell? w _ hx232_10)).trans hx232_10
   replace hx232_11 := (HB.out.cell (World.block_lt_of_cell? w _ hx232_11)).trans hx232_11
   replace hx232_12 := (HB.out.cell (World.block_lt_of_cell? w _ hx232_12)).trans hx232_12
   replace hx232_13 := (HB.out.cell (World.block_lt_of_cell? w _ hx232_13)).trans hx232_13
   replace hx232_14 := (HB.out.cell (World.block_lt_of_cell? w _ hx232_14)).trans hx232_14
   replace hx232_15 := (HB.out.cell (World.block_lt_of_cell? w _ hx232_15)).trans hx232_15
   replace hx232_16 := (HB.out.cell (World.block_lt_of_cell? w _ hx232_16)).trans hx232_16
   have HR232_3 := aM hi232_3
   have HC232_3 := aM hl232_3
   clear hi232_3 hl232_3
   have HR232_13 := aM hi232_13
   have HC232_13 := aM hl232_13
   clear hi232_13 hl232_13
   have HR232_14 := aM hi232_14
   have HC232_14 := aM hl232_14
   clear hi232_14 hl232_14
   have HR232_15 := aM hi232_15
   have HC232_15 := aM hl232_15
   clear hi232_15 hl232_15
   replace p232 := eq_true p232
   replace q232 := eq_true q232
   have ea_ := Option.some.inj (hx228_3.symm.trans hx232_3)
   injection ea_ with ea_ en_ ec_
   subst ea_
   subst ec_
   clear en_
   have ea_ := Option.some.inj (hx228_13.symm.trans hx232_13)
   injection ea_ with ea_ en_ ec_
   subst ea_
   subst ec_
   clear en_
   have ea_ := Option.some.inj (hx228_14.symm.trans hx232_14)
   injection ea_ with ea_ en_ ec_
   subst ea_
   subst ec_
   clear en_
   have ea_ := Option.some.inj (hx228_15.symm.trans hx232_15)
   injection ea_ with ea_ en_ ec_
   subst ea_
   subst ec_
   clear en_
   go_wp2_with (first | ((with_reducible refine gate_callee (f := 18) rfl ?_); refine goesL_ (some 57) rfl rfl Try.func18 (by kernel_rfl) rfl #[.agg #[.int .i64 ((rd_T45 l0 x14_1).f0), .int .i64 ((rd_T45 l0 x14_1).f1), .int .i64 ((rd_T45 l0 x14_1).f2), .slice A228_3 ((rd_T45 l0 x14_1).f3).length c228_3, .int .i64 ((rd_T45 l0 x14_1).f4.f0), .int .i64 ((rd_T45 l0 x14_1).f4.f1), .int .i64 ((rd_T45 l0 x14_1).f4.f2), .int .i64 ((rd_T45 l0 x14_1).f4.f3), .int .i64 ((rd_T45 l0 x14_1).f4.f4), .int .i64 ((rd_T45 l0 x14_1).f4.f5), .int .i64 ((rd_T45 l0 x14_1).f4.f6), .int .i64 ((rd_T45 l0 x14_1).f4.f7), .bool ((rd_T45 l0 x14_1).f4.f8), .slice A228_13 ((rd_T45 l0 x14_1).f4.f9).length c228_13, .slice A228_14 ((rd_T45 l0 x14_1).f5).length c228_14, .slice A228_15 ((rd_T45 l0 x14_1).f6).length c228_15, .bool ((rd_T45 l0 x14_1).f7)]] rfl pA ?_; (with_reducible refine (gradineref45_command.calls k1 ((rd_T45 l0 x14_1).f0) ((rd_T45 l0 x14_1).f1) ((rd_T45 l0 x14_1).f2) _ _ ((rd_T45 l0 x14_1).f3) ((rd_T45 l0 x14_1).f4.f0) ((rd_T45 l0 x14_1).f4.f1) ((rd_T45 l0 x14_1).f4.f2) ((rd_T45 l0 x14_1).f4.f3) ((rd_T45 l0 x14_1).f4.f4) ((rd_T45 l0 x14_1).f4.f5) ((rd_T45 l0 x14_1).f4.f6) ((rd_T45 l0 x14_1).f4.f7) ((rd_T45 l0 x14_1).f4.f8) _ _ ((rd_T45 l0 x14_1).f4.f9) _ _ ((rd_T45 l0 x14_1).f5) _ _ ((rd_T45 l0 x14_1).f6) ((rd_T45 l0 x14_1).f7) zq _ ?s1 ?s2 ?s3 ?s4 ?s5 ?s6 ?s7 ?s8 A12.out).mono ?_); (case s1 => exact sC HR232_3 HB); (case s2 => exact HC232_3.out); (case s3 => exact sC HR232_13 HB); (case s4 => exact HC232_13.out); (case s5 => exact sC HR232_14 HB); (case s6 => exact HC232_14.out); (case s7 => exact sC HR232_15 HB); (case s8 => exact HC232_15.out); rintro e w14 ⟨v234, rfl, ho0, hb⟩; refine ⟨_, rfl, ?_⟩; have zx := aM (Kd.R_lower (Kd.R_new' ho0 (Kd.R_lt (pR z1.out))) (below_size (qB HB))); replace z1 := eR z1 ho0 hb; replace HB := bS (qB HB) hb; (try clear hb); (try clear hk); (try clear hi); (try clear ho0); obtain ⟨Ao16, co16, eo16⟩ := Kd.R_slice zx.out; subst eo16) | ((with_reducible refine gate_builtin (b := .append) (xs := #[.tmp 52, .tmp 57]) rfl ?_); (try (refine gate_guard (by rfl) ?_; dsimp only)); at_builtin; refine Kd.R_append_rows (Kd.int .u8) (w0 := w) w.heap.size rfl (.tmp 52) (.tmp 57) 25 5 (.int .u8 0) 1 rfl Try.underlying25 info5 rfl (by decide) (by omega) u4 x4_1 zq _ _ _ (fun k_ => some k_ ≠ (.slice Ao16 zq.length co16 : Value).ownBlock) (fun _ => False) rfl rfl ?aO ?aR (fun _ _ h => h) (fun _ h => h.elim) ?aF ?aB ?aS ?aL ?_; (case aR => exact sR zx); (case aB => exact (qB HB)); (case aF => exact (fun k_ hk => Kd.fresh' (Kd.R_lt (pR zx.out)) k_ hk)); (case aO => exact (by (with_reducible repeat (first | apply rA | apply rN | apply rD)); exact Kd.R_mono z1.out (fun _ hk => hk.2))); (case aS => exact (below_size (qB HB))); (case aL => have := LMc13.out; omega); intro v237 w15 ho hb hg hat; rw [← Ny236.out] at ho; replace zx := aM (Kd.R_after (ok := (fun _ => True)) (pR zx.out) hg hat); replace HB := aM (hb); have HO238 := aM (ho); clear z1; clear ho hb hg hat))
   go_roundg k1
   case measure => have := HK1.out; omega
   case rel => exact ⟨(z6), (wrap64 (x14_1 + 1)), (pF), H', ⟨by have := HK1.out; omega⟩, ⟨by (with_reducible repeat (first | apply rA | apply rN | apply rD)); exact Kd.R_mono HO238.out (fun _ hk => trivial)⟩, ⟨qB HB⟩⟩
end Go.Proofs.Ytkohdojiockejaa.Q
