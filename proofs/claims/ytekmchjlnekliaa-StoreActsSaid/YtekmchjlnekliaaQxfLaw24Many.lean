-- By wip/gprint.py (this session's), out of the kit's print.py.
import Derived.Test.YtekmchjlnekliaaQx0
import Derived.Test.YtekmchjlnekliaaQxfPlainWide
namespace Go.Proofs.Ytekmchjlnekliaa.Q
open Go.RowKit Go.Proofs.YtekmchjlnekliaaW.PrintWords Go.Proofs.YtekmchjlnekliaaW.PrintLast Go.Proofs.YtekmchjlnekliaaW.PrintMore
attribute [local go_sem] max2_int min2_int max_two min_two max_three min_three max_four min_four   -- for this text's walks alone
set_option linter.unusedVariables false
set_option linter.unusedSimpArgs false

/-! ### gradinelaw24_many: function 6 -/
def gradinelaw24_many.l0 : Nat → List (S25) → Int → Int → Option (Bool)
 | 0, _, _, _ => none
 | k + 1, x0, x5, x6 => if x6 < x5 then (if 0 ≤ x6 then (if x6 < (x0.length : Int) then (if (((rd_T25 x0 x6).f1).length : Int) > 100 then (some true) else (if (((rd_T25 x0 x6).f2).length : Int) > 100 then (some true) else ((gradineplain_Wide.f k ((rd_T25 x0 x6).f2) 9).bind fun zk => (if zk = true then (some true) else (gradinelaw24_many.l0 k x0 x5 (wrap64 (x6 + 1))))))) else (none)) else (none)) else (some (decide ((x0.length : Int) > 40)))
def gradinelaw24_many.f (k : Nat) (l0 : List (S25)) : Option (Bool) := gradinelaw24_many.l0 k l0 (l0.length : Int) 0
set_option maxHeartbeats 8000000 in
set_option maxRecDepth 100000 in
theorem gradinelaw24_many.calls (k : Nat) (A0 : Option Addr) (c0 : Nat) (l0 : List (S25)) (r : Bool) (w : World) (hr0 : Kd.C k25 w A0 l0.length l0) (hc0 : l0.length ≤ c0) (h : gradinelaw24_many.f k l0 = some r) :
  Calls Try.prog 6 #[.slice A0 l0.length c0] w fun e w' => e = .returned (.bool r) ∧ Below w.heap.size w w' := by
 have HR0 := aM hr0
 have HC0 := aM hc0
 clear hr0 hc0
 have HB := aM (Below.refl w.heap.size w)
 have H : (gradinelaw24_many.l0 k l0 (l0.length : Int) 0) = some r := h
 clear h
 have H' := aM H
 clear H
 go_enter Try.func6, Try.ntmps6
 go_wp2
 go_loopg [6] k (fun kq v6 w' => ∃ (x6_1 : Int), v6 = .int .i64 x6_1 ∧ Aside0 (gradinelaw24_many.l0 kq l0 (l0.length : Int) x6_1 = some r) ∧ Aside0 (kq ≤ k) ∧ Aside0 (Below w.heap.size w w'))
 case atStart => exact ⟨(0), (pF), H', ⟨Nat.le_refl _⟩, ⟨qB HB⟩⟩
 case round =>
  clear H'
  obtain ⟨x6_1, rfl, HA, HK1, HB⟩ := hrel
  cases gk with
  | zero => exact absurd HA.out (by simp [gradinelaw24_many.l0])
  | succ k1 =>
   have H := HA.out
   clear HA
   simp only [gradinelaw24_many.l0] at H
   by_cases c2 : x6_1 < (l0.length : Int)
   rotate_left
   ·rw [if_neg c2] at H
    have c2b0 : decide (x6_1 < (l0.length : Int)) = false := decide_eq_false c2
    clear c2
    obtain rfl := Option.some.inj H
    go_wp2
    go_ret
    exact ⟨pE, qB HB⟩

   rw [if_pos c2] at H
   have c2b0 : decide (x6_1 < (l0.length : Int)) = true := decide_eq_true c2
   clear c2
   by_cases c3 : 0 ≤ x6_1
   rotate_left
   ·rw [if_neg c3] at H
    exact absurd H (by simp)
   rw [if_pos c3] at H
   have c3b0 : decide (0 ≤ x6_1) = true := decide_eq_true c3
   clear c3
   by_cases c4 : x6_1 < (l0.length : Int)
   rotate_left
   ·rw [if_neg c4] at H
    exact absurd H (by simp)
   rw [if_pos c4] at H
   have c4b0 : decide (x6_1 < (l0.length : Int)) = true := decide_eq_true c4
   clear c4
   by_cases c5 : (((rd_T25 l0 x6_1).f1).length : Int) > 100
   ·rw [if_pos c5] at H
    have c5b0 : decide (100 < (((rd_T25 l0 x6_1).f1).length : Int)) = true := decide_eq_true c5
    have c5b1 : decide (100 < ((rd_T25 l0 x6_1).f1).length) = true := decide_eq_true (by omega)
    clear c5
    obtain rfl := Option.some.inj H
    have p104 : 0 ≤ (x6_1 : Int) := of_decide_eq_true pD
    have q104 : x6_1 < (l0.length : Int) := of_decide_eq_true pD
    obtain ⟨ad104, A104_1, c104_1, A104_2, c104_2, e104, hx104_0, hx104_1, hx104_2, hl104_1, hi104_1, hl104_2, hi104_2⟩ := at_T25 HR0.out x6_1 p104 q104
    cases e104
    replace hx104_0 := (HB.out.cell (World.block_lt_of_cell? w _ hx104_0)).trans hx104_0
    replace hx104_1 := (HB.out.cell (World.block_lt_of_cell? w _ hx104_1)).trans hx104_1
    replace hx104_2 := (HB.out.cell (World.block_lt_of_cell? w _ hx104_2)).trans hx104_2
    have za := aM hi104_1
    have zb := aM hl104_1
    clear hi104_1 hl104_1
    have zc := aM hi104_2
    have zd := aM hl104_2
    clear hi104_2 hl104_2
    replace p104 := eq_true p104
    replace q104 := eq_true q104
    go_wp2
    go_ret
    exact ⟨pE, qB HB⟩
   rw [if_neg c5] at H
   have c5b0 : decide (100 < (((rd_T25 l0 x6_1).f1).length : Int)) = false := decide_eq_false c5
   have c5b1 : decide (100 < ((rd_T25 l0 x6_1).f1).length) = false := decide_eq_false (by omega)
   clear c5
   by_cases c6 : (((rd_T25 l0 x6_1).f2).length : Int) > 100
   ·rw [if_pos c6] at H
    have c6b0 : decide (100 < (((rd_T25 l0 x6_1).f2).length : Int)) = true := decide_eq_true c6
    have c6b1 : decide (100 < ((rd_T25 l0 x6_1).f2).length) = true := decide_eq_true (by omega)
    clear c6
    obtain rfl := Option.some.inj H
    have p104 : 0 ≤ (x6_1 : Int) := of_decide_eq_true pD
    have q104 : x6_1 < (l0.length : Int) := of_decide_eq_true pD
    obtain ⟨ad104, A104_1, c104_1, A104_2, c104_2, e104, hx104_0, hx104_1, hx104_2, hl104_1, hi104_1, hl104_2, hi104_2⟩ := at_T25 HR0.out x6_1 p104 q104
    cases e104
    replace hx104_0 := (HB.out.cell (World.block_lt_of_cell? w _ hx104_0)).trans hx104_0
    replace hx104_1 := (HB.out.cell (World.block_lt_of_cell? w _ hx104_1)).trans hx104_1
    replace hx104_2 := (HB.out.cell (World.block_lt_of_cell? w _ hx104_2)).trans hx104_2
    have za := aM hi104_1
    have zb := aM hl104_1
    clear hi104_1 hl104_1
    have zc := aM hi104_2
    have zd := aM hl104_2
    clear hi104_2 hl104_2
    replace p104 := eq_true p104
    replace q104 := eq_true q104
    have p105 : 0 ≤ (x6_1 : Int) := of_decide_eq_true pD
    have q105 : x6_1 < (l0.length : Int) := of_decide_eq_true pD
    obtain ⟨ad105, A105_1, c105_1, A105_2, c105_2, e105, hx105_0, hx105_1, hx105_2, hl105_1, hi105_1, hl105_2, hi105_2⟩ := at_T25 HR0.out x6_1 p105 q105
    obtain rfl : ad104 = ad105 := (by injection e105)
    replace hx105_0 := (HB.out.cell (World.block_lt_of_cell? w _ hx105_0)).trans hx105_0
    replace hx105_1 := (HB.out.cell (World.block_lt_of_cell? w _ hx105_1)).trans hx105_1
    replace hx105_2 := (HB.out.cell (World.block_lt_of_cell? w _ hx105_2)).trans hx105_2
    have zg := aM hi105_1
    have zh := aM hl105_1
    clear hi105_1 hl105_1
    have zi := aM hi105_2
    have zj := aM hl105_2
    clear hi105_2 hl105_2
    replace p105 := eq_true p105
    replace q105 := eq_true q105
    have ea_ := Option.some.inj (hx104_1.symm.trans hx105_1)
    injection ea_ with ea_ en_ ec_
    subst ea_
    subst ec_
    clear en_
    have ea_ := Option.some.inj (hx104_2.symm.trans hx105_2)
    injection ea_ with ea_ en_ ec_
    subst ea_
    subst ec_
    clear en_
    go_wp2
    go_ret
    exact ⟨pE, qB HB⟩
   rw [if_neg c6] at H
   have c6b0 : decide (100 < (((rd_T25 l0 x6_1).f2).length : Int)) = false := decide_eq_false c6
   have c6b1 : decide (100 < ((rd_T25 l0 x6_1).f2).length) = false := decide_eq_false (by omega)
   clear c6
   replace H := Option.bind_eq_some_iff.mp H
   obtain ⟨zk, A70, H⟩ := H
   try dsimp only at H
   have A7 := aM A70
   clear A70
   by_cases c8 : zk = true
   ·subst c8
    rw [if_pos rfl] at H
    obtain rfl := Option.some.inj H
    have p104 : 0 ≤ (x6_1 : Int) := of_decide_eq_true pD
    have q104 : x6_1 < (l0.length : Int) := of_decide_eq_true pD
    obtain ⟨ad104, A104_1, c104_1, A104_2, c104_2, e104, hx104_0, hx104_1, hx104_2, hl104_1, hi104_1, hl104_2, hi104_2⟩ := at_T25 HR0.out x6_1 p104 q104
    cases e104
    replace hx104_0 := (HB.out.cell (World.block_lt_of_cell? w _ hx104_0)).trans hx104_0
    replace hx104_1 := (HB.out.cell (World.block_lt_of_cell? w _ hx104_1)).trans hx104_1
    replace hx104_2 := (HB.out.cell (World.block_lt_of_cell? w _ hx104_2)).trans hx104_2
    have za := aM hi104_1
    have zb := aM hl104_1
    clear hi104_1 hl104_1
    have zc := aM hi104_2
    have zd := aM hl104_2
    clear hi104_2 hl104_2
    replace p104 := eq_true p104
    replace q104 := eq_true q104
    have p105 : 0 ≤ (x6_1 : Int) := of_decide_eq_true pD
    have q105 : x6_1 < (l0.length : Int) := of_decide_eq_true pD
    obtain ⟨ad105, A105_1, c105_1, A105_2, c105_2, e105, hx105_0, hx105_1, hx105_2, hl105_1, hi105_1, hl105_2, hi105_2⟩ := at_T25 HR0.out x6_1 p105 q105
    obtain rfl : ad104 = ad105 := (by injection e105)
    replace hx105_0 := (HB.out.cell (World.block_lt_of_cell? w _ hx105_0)).trans hx105_0
    replace hx105_1 := (HB.out.cell (World.block_lt_of_cell? w _ hx105_1)).trans hx105_1
    replace hx105_2 := (HB.out.cell (World.block_lt_of_cell? w _ hx105_2)).trans hx105_2
    have zg := aM hi105_1
    have zh := aM hl105_1
    clear hi105_1 hl105_1
    have zi := aM hi105_2
    have zj := aM hl105_2
    clear hi105_2 hl105_2
    replace p105 := eq_true p105
    replace q105 := eq_true q105
    have ea_ := Option.some.inj (hx104_1.symm.trans hx105_1)
    injection ea_ with ea_ en_ ec_
    subst ea_
    subst ec_
    clear en_
    have ea_ := Option.some.inj (hx104_2.symm.trans hx105_2)
    injection ea_ with ea_ en_ ec_
    subst ea_
    subst ec_
    clear en_
    have p106 : 0 ≤ (x6_1 : Int) := of_decide_eq_true pD
    have q106 : x6_1 < (l0.length : Int) := of_decide_eq_true pD
    obtain ⟨ad106, A106_1, c106_1, A106_2, c106_2, e106, hx106_0, hx106_1, hx106_2, hl106_1, hi106_1, hl106_2, hi106_2⟩ := at_T25 HR0.out x6_1 p106 q106
    obtain rfl : ad104 = ad106 := (by injection e106)
    replace hx106_0 := (HB.out.cell (World.block_lt_of_cell? w _ hx106_0)).trans hx106_0
    replace hx106_1 := (HB.out.cell (World.block_lt_of_cell? w _ hx106_1)).trans hx106_1
    replace hx106_2 := (HB.out.cell (World.block_lt_of_cell? w _ hx106_2)).trans hx106_2
    have HR106_1 := aM hi106_1
    have HC106_1 := aM hl106_1
    clear hi106_1 hl106_1
    have ze := aM hi106_2
    have zf := aM hl106_2
    clear hi106_2 hl106_2
    replace p106 := eq_true p106
    replace q106 := eq_true q106
    have ea_ := Option.some.inj (hx104_1.symm.trans hx106_1)
    injection ea_ with ea_ en_ ec_
    subst ea_
    subst ec_
    clear en_
    have ea_ := Option.some.inj (hx104_2.symm.trans hx106_2)
    injection ea_ with ea_ en_ ec_
    subst ea_
    subst ec_
    clear en_
    go_wp2_with (first | (go_at_call 5; (with_reducible refine (gradineplain_Wide.calls k1 _ _ ((rd_T25 l0 x6_1).f2) 9 true _ ?s1 ?s2 A7.out).mono ?_); (case s1 => exact sC ze HB); (case s2 => exact zf.out); rintro e w9 ⟨rfl, hb⟩; replace HB := bS (qB HB) hb; (try clear hb); (try clear hk); (try clear hi)))
    go_ret
    exact ⟨pE, qB HB⟩
   replace c8 := Bool.eq_false_iff.mpr c8
   subst c8
   rw [if_neg (show ¬ (false = true) by decide)] at H
   have H' := aM H
   clear H
   have p104 : 0 ≤ (x6_1 : Int) := of_decide_eq_true pD
   have q104 : x6_1 < (l0.length : Int) := of_decide_eq_true pD
   obtain ⟨ad104, A104_1, c104_1, A104_2, c104_2, e104, hx104_0, hx104_1, hx104_2, hl104_1, hi104_1, hl104_2, hi104_2⟩ := at_T25 HR0.out x6_1 p104 q104
   cases e104
   replace hx104_0 := (HB.out.cell (World.block_lt_of_cell? w _ hx104_0)).trans hx104_0
   replace hx104_1 := (HB.out.cell (World.block_lt_of_cell? w _ hx104_1)).trans hx104_1
   replace hx104_2 := (HB.out.cell (World.block_lt_of_cell? w _ hx104_2)).trans hx104_2
   have za := aM hi104_1
   have zb := aM hl104_1
   clear hi104_1 hl104_1
   have zc := aM hi104_2
   have zd := aM hl104_2
   clear hi104_2 hl104_2
   replace p104 := eq_true p104
   replace q104 := eq_true q104
   have p105 : 0 ≤ (x6_1 : Int) := of_decide_eq_true pD
   have q105 : x6_1 < (l0.length : Int) := of_decide_eq_true pD
   obtain ⟨ad105, A105_1, c105_1, A105_2, c105_2, e105, hx105_0, hx105_1, hx105_2, hl105_1, hi105_1, hl105_2, hi105_2⟩ := at_T25 HR0.out x6_1 p105 q105
   obtain rfl : ad104 = ad105 := (by injection e105)
   replace hx105_0 := (HB.out.cell (World.block_lt_of_cell? w _ hx105_0)).trans hx105_0
   replace hx105_1 := (HB.out.cell (World.block_lt_of_cell? w _ hx105_1)).trans hx105_1
   replace hx105_2 := (HB.out.cell (World.block_lt_of_cell? w _ hx105_2)).trans hx105_2
   have zg := aM hi105_1
   have zh := aM hl105_1
   clear hi105_1 hl105_1
   have zi := aM hi105_2
   have zj := aM hl105_2
   clear hi105_2 hl105_2
   replace p105 := eq_true p105
   replace q105 := eq_true q105
   have ea_ := Option.some.inj (hx104_1.symm.trans hx105_1)
   injection ea_ with ea_ en_ ec_
   subst ea_
   subst ec_
   clear en_
   have ea_ := Option.some.inj (hx104_2.symm.trans hx105_2)
   injection ea_ with ea_ en_ ec_
   subst ea_
   subst ec_
   clear en_
   have p106 : 0 ≤ (x6_1 : Int) := of_decide_eq_true pD
   have q106 : x6_1 < (l0.length : Int) := of_decide_eq_true pD
   obtain ⟨ad106, A106_1, c106_1, A106_2, c106_2, e106, hx106_0, hx106_1, hx106_2, hl106_1, hi106_1, hl106_2, hi106_2⟩ := at_T25 HR0.out x6_1 p106 q106
   obtain rfl : ad104 = ad106 := (by injection e106)
   replace hx106_0 := (HB.out.cell (World.block_lt_of_cell? w _ hx106_0)).trans hx106_0
   replace hx106_1 := (HB.out.cell (World.block_lt_of_cell? w _ hx106_1)).trans hx106_1
   replace hx106_2 := (HB.out.cell (World.block_lt_of_cell? w _ hx106_2)).trans hx106_2
   have HR106_1 := aM hi106_1
   have HC106_1 := aM hl106_1
   clear hi106_1 hl106_1
   have ze := aM hi106_2
   have zf := aM hl106_2
   clear hi106_2 hl106_2
   replace p106 := eq_true p106
   replace q106 := eq_true q106
   have ea_ := Option.some.inj (hx104_1.symm.trans hx106_1)
   injection ea_ with ea_ en_ ec_
   subst ea_
   subst ec_
   clear en_
   have ea_ := Option.some.inj (hx104_2.symm.trans hx106_2)
   injection ea_ with ea_ en_ ec_
   subst ea_
   subst ec_
   clear en_
   go_wp2_with (first | (go_at_call 5; (with_reducible refine (gradineplain_Wide.calls k1 _ _ ((rd_T25 l0 x6_1).f2) 9 false _ ?s1 ?s2 A7.out).mono ?_); (case s1 => exact sC ze HB); (case s2 => exact zf.out); rintro e w10 ⟨rfl, hb⟩; replace HB := bS (qB HB) hb; (try clear hb); (try clear hk); (try clear hi)))
   go_roundg k1
   case measure => have := HK1.out; omega
   case rel => exact ⟨(wrap64 (x6_1 + 1)), (pF), H', ⟨by have := HK1.out; omega⟩, ⟨qB HB⟩⟩
end Go.Proofs.Ytekmchjlnekliaa.Q
