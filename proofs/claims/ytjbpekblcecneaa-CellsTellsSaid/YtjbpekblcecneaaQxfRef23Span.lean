-- By wip/gprint.py (this session's), out of the kit's print.py.
import Derived.Test.YtjbpekblcecneaaQx0
namespace Go.Proofs.Ytjbpekblcecneaa.Q
open Go.RowKit Go.Proofs.YtjbpekblcecneaaW.PrintWords Go.Proofs.YtjbpekblcecneaaW.PrintLast Go.Proofs.YtjbpekblcecneaaW.PrintMore
attribute [local go_sem] max2_int min2_int max_two min_two max_three min_three max_four min_four   -- for this text's walks alone
set_option linter.unusedVariables false
set_option linter.unusedSimpArgs false

/-! ### gradineref23_Span: function 28 -/
def gradineref23_Span.l0 : Nat → List Int → Int → Int → Int → Int → Option (Int × Int)
 | 0, _, _, _, _, _ => none
 | k + 1, x0, x4, x5, x14, x15 => if x15 < x14 then (if 0 ≤ x15 then (if x15 < (x0.length : Int) then (gradineref23_Span.l0 k x0 (mn x4 (rd x0 x15)) (mx x5 (rd x0 x15)) x14 (wrap64 (x15 + 1))) else (none)) else (none)) else (some (x4, x5))
def gradineref23_Span.f (k : Nat) (l0 : List Int) : Option (Int × Int) := if 0 < (l0.length : Int) then (gradineref23_Span.l0 k l0 (rd l0 0) (rd l0 0) (l0.length : Int) 0) else (none)
set_option maxHeartbeats 8000000 in
set_option maxRecDepth 100000 in
theorem gradineref23_Span.calls (k : Nat) (A0 : Option Addr) (c0 : Nat) (l0 : List Int) (r1 : Int) (r2 : Int) (w : World) (hr0 : Kd.C (Kd.int .i64) w A0 l0.length l0) (hc0 : l0.length ≤ c0) (h : gradineref23_Span.f k l0 = some (r1, r2)) :
  Calls Try.prog 28 #[.slice A0 l0.length c0] w fun e w' => e = .returned (.tuple #[.int .i64 r1, .int .i64 r2]) ∧ Below w.heap.size w w' := by
 have HR0 := aM hr0
 have HC0 := aM hc0
 clear hr0 hc0
 have HB := aM (Below.refl w.heap.size w)
 have H : (if 0 < (l0.length : Int) then (gradineref23_Span.l0 k l0 (rd l0 0) (rd l0 0) (l0.length : Int) 0) else (none)) = some (r1, r2) := h
 clear h
 by_cases c2 : 0 < (l0.length : Int)
 rotate_left
 ·rw [if_neg c2] at H
  exact absurd H (by simp)

 rw [if_pos c2] at H
 have c2b0 : decide (0 < (l0.length : Int)) = true := decide_eq_true c2
 have c2b1 : decide (0 < l0.length) = true := decide_eq_true (by omega)
 clear c2
 have H' := aM H
 clear H
 have p800 : 0 ≤ (0 : Int) := (by omega)
 have q800 : 0 < (l0.length : Int) := of_decide_eq_true pD
 obtain ⟨ad800, e800, hx800_0⟩ := Kd.at_int HR0.out 0 p800 q800
 cases e800
 have qi800 : (0 < l0.length) = True := eq_true (by omega)
 (try rw [show ((0 : Int)).toNat = 0 from rfl] at hx800_0)
 (try rw [Addr.add_zero'] at hx800_0)
 replace p800 := eq_true p800
 replace q800 := eq_true q800
 have p801 : 0 ≤ (0 : Int) := (by omega)
 have q801 : 0 < (l0.length : Int) := of_decide_eq_true pD
 obtain ⟨ad801, e801, hx801_0⟩ := Kd.at_int HR0.out 0 p801 q801
 obtain rfl : ad800 = ad801 := (by injection e801)
 have qi801 : (0 < l0.length) = True := eq_true (by omega)
 (try rw [show ((0 : Int)).toNat = 0 from rfl] at hx801_0)
 (try rw [Addr.add_zero'] at hx801_0)
 replace p801 := eq_true p801
 replace q801 := eq_true q801
 go_enter Try.func28, Try.ntmps28
 go_wp2
 repeat (go_quiet (fail); try go_wp2)
 go_loopg [4, 5, 15] k (fun kq v4 v5 v15 w' => ∃ (x4_1 : Int) (x5_1 : Int) (x15_1 : Int), v4 = .int .i64 x4_1 ∧ v5 = .int .i64 x5_1 ∧ v15 = .int .i64 x15_1 ∧ Aside0 (gradineref23_Span.l0 kq l0 x4_1 x5_1 (l0.length : Int) x15_1 = some (r1, r2)) ∧ Aside0 (kq ≤ k) ∧ Aside0 (Below w.heap.size w w'))
 case atStart => exact ⟨(rd l0 0), (rd l0 0), (0), (pF), (pF), (pF), H', ⟨Nat.le_refl _⟩, ⟨qB HB⟩⟩
 case round =>
  clear H'
  try clear c2b0
  try clear c2b1
  try clear hx800_0
  try clear hx801_0
  try clear p800
  try clear p801
  try clear q800
  try clear q801
  obtain ⟨x4_1, x5_1, x15_1, rfl, rfl, rfl, HA, HK1, HB⟩ := hrel
  cases gk with
  | zero => exact absurd HA.out (by simp [gradineref23_Span.l0])
  | succ k1 =>
   have H := HA.out
   clear HA
   simp only [gradineref23_Span.l0] at H
   by_cases c3 : x15_1 < (l0.length : Int)
   rotate_left
   ·rw [if_neg c3] at H
    have c3b0 : decide (x15_1 < (l0.length : Int)) = false := decide_eq_false c3
    clear c3
    simp only [Option.some.injEq, Prod.mk.injEq] at H
    obtain ⟨rfl, rfl⟩ := H
    go_wp2
    repeat (go_quiet (fail); try go_wp2)
    go_ret2
    exact ⟨pE, qB HB⟩
   rw [if_pos c3] at H
   have c3b0 : decide (x15_1 < (l0.length : Int)) = true := decide_eq_true c3
   clear c3
   by_cases c4 : 0 ≤ x15_1
   rotate_left
   ·rw [if_neg c4] at H
    exact absurd H (by simp)
   rw [if_pos c4] at H
   have c4b0 : decide (0 ≤ x15_1) = true := decide_eq_true c4
   clear c4
   by_cases c5 : x15_1 < (l0.length : Int)
   rotate_left
   ·rw [if_neg c5] at H
    exact absurd H (by simp)
   rw [if_pos c5] at H
   have c5b0 : decide (x15_1 < (l0.length : Int)) = true := decide_eq_true c5
   clear c5
   obtain ⟨ji6, hji6⟩ : ∃ j_ : Int, (mn x4_1 (rd l0 x15_1)) = j_ := ⟨_, rfl⟩
   replace H : (gradineref23_Span.l0 k1 l0 ji6 (mx x5_1 (rd l0 x15_1)) (l0.length : Int) (wrap64 (x15_1 + 1))) = some (r1, r2) := by first | (rw [hji6] at H; exact H) | (simp only [hji6] at H ⊢; exact H)
   have hji6_ : (if (rd l0 x15_1) < x4_1 then (rd l0 x15_1) else x4_1) = ji6 := hji6
   obtain ⟨ji7, hji7⟩ : ∃ j_ : Int, (mx x5_1 (rd l0 x15_1)) = j_ := ⟨_, rfl⟩
   replace H : (gradineref23_Span.l0 k1 l0 ji6 ji7 (l0.length : Int) (wrap64 (x15_1 + 1))) = some (r1, r2) := by first | (rw [hji7] at H; exact H) | (simp only [hji7] at H ⊢; exact H)
   have hji7_ : (if x5_1 < (rd l0 x15_1) then (rd l0 x15_1) else x5_1) = ji7 := hji7
   have H' := aM H
   clear H
   have p802 : 0 ≤ (x15_1 : Int) := of_decide_eq_true pD
   have q802 : x15_1 < (l0.length : Int) := of_decide_eq_true pD
   obtain ⟨ad802, e802, hx802_0⟩ := Kd.at_int HR0.out x15_1 p802 q802
   obtain rfl : ad800 = ad802 := (by injection e802)
   replace hx802_0 := (HB.out.cell (World.block_lt_of_cell? w _ hx802_0)).trans hx802_0
   replace p802 := eq_true p802
   replace q802 := eq_true q802
   have p803 : 0 ≤ (x15_1 : Int) := of_decide_eq_true pD
   have q803 : x15_1 < (l0.length : Int) := of_decide_eq_true pD
   obtain ⟨ad803, e803, hx803_0⟩ := Kd.at_int HR0.out x15_1 p803 q803
   obtain rfl : ad800 = ad803 := (by injection e803)
   replace hx803_0 := (HB.out.cell (World.block_lt_of_cell? w _ hx803_0)).trans hx803_0
   replace p803 := eq_true p803
   replace q803 := eq_true q803
   go_wp2
   repeat (go_quiet (fail); try go_wp2)
   go_roundg k1
   case measure => have := HK1.out; omega
   case rel => exact ⟨(ji6), (ji7), (wrap64 (x15_1 + 1)), (by first | rfl | (simp; done) | (simp only [← hji6] <;> (first | rfl | simp)) | (simp [*]; done)), (by first | rfl | (simp; done) | (simp only [← hji7] <;> (first | rfl | simp)) | (simp [*]; done)), (pF), H', ⟨by have := HK1.out; omega⟩, ⟨qB HB⟩⟩
end Go.Proofs.Ytjbpekblcecneaa.Q
