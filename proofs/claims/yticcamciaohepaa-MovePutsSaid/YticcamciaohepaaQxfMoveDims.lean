-- By wip/gprint.py (this session's), out of the kit's print.py.
import Derived.Test.YticcamciaohepaaQx0
import Derived.Test.YticcamciaohepaaQxfMoveIs
import Derived.Test.YticcamciaohepaaQxfMoveJoined
import Derived.Test.YticcamciaohepaaQxfMovePut
import Derived.Test.YticcamciaohepaaQxfMoveTaken
import Derived.Test.YticcamciaohepaaQxfMoveView
import Derived.Test.YticcamciaohepaaQxfShapeCheck
import Derived.Test.YticcamciaohepaaQxfViewWhole
namespace Go.Proofs.Yticcamciaohepaa.Q
open Go.RowKit Go.Proofs.YticcamciaohepaaW.PrintWords Go.Proofs.YticcamciaohepaaW.PrintLast Go.Proofs.YticcamciaohepaaW.PrintMore
attribute [local go_sem] max2_int min2_int max_two min_two max_three min_three max_four min_four   -- for this text's walks alone
set_option linter.unusedVariables false
set_option linter.unusedSimpArgs false

/-! ### move_Dims: function 10 -/
mutual
def move_Dims.j0 : Nat → Int → List (List Int) → Bool → Int → Int → Int → Int → Int → Int → Int → Int → Bool → List Int → Option (List Int × Int)
 | 0, _, _, _, _, _, _, _, _, _, _, _, _, _ => none
 | k + 1, x0, x2, x31, zl, zm, zn, zo, zp, zq, zr, zs, zt, zu => if x31 = true then (some (([] : List Int), 1)) else (move_Dims.l0 k x0 x2 x2 (x2.length : Int) 0 zl zm zn zo zp zq zr zs zt zu)
def move_Dims.l0 : Nat → Int → List (List Int) → List (List Int) → Int → Int → Int → Int → Int → Int → Int → Int → Int → Int → Bool → List Int → Option (List Int × Int)
 | 0, _, _, _, _, _, _, _, _, _, _, _, _, _, _, _ => none
 | k + 1, x0, x2, x32, x33, x34, zl, zm, zn, zo, zp, zq, zr, zs, zt, zu => if x34 < x33 then (if 0 ≤ x34 then (if x34 < (x32.length : Int) then ((shape_Check.f (rd_L1 x32 x34)).bind fun zz => (if zz = 0 then (move_Dims.l0 k x0 x2 x32 x33 (wrap64 (x34 + 1)) zl zm zn zo zp zq zr zs zt zu) else (some (([] : List Int), zz)))) else (none)) else (none)) else (if x0 = 38 then (if 0 < (x2.length : Int) then ((move_taken.f k (rd_L1 x2 0) zl zm zn zo zp zq zr zs zt zu).bind fun bt331 => (some (bt331.1, bt331.2))) else (none)) else (if x0 = 39 then (if 0 < (x2.length : Int) then ((move_put.f k (rd_L1 x2 0) zl zm zn zo zp zq zr zs zt zu).bind fun bt336 => (some (bt336.1, bt336.2))) else (none)) else (if x0 = 40 then (if 0 < (x2.length : Int) then (if 1 < (x2.length : Int) then ((move_joined.f k (rd_L1 x2 0) (rd_L1 x2 1) zl).bind fun bt342 => (some (bt342.1, bt342.2))) else (none)) else (none)) else (if 0 < (x2.length : Int) then ((view_Whole.f k (rd_L1 x2 0)).bind fun bt347 => ((move_View.f k x0 zl zm zn zo zp zq zr zs zt zu bt347.1 bt347.2.1 bt347.2.2).bind fun bt354 => (some (bt354.2.1, bt354.2.2.2)))) else (none)))))
end
def move_Dims.f (k : Nat) (a0 : Int) (a1_0 : Int) (a1_1 : Int) (a1_2 : Int) (a1_3 : Int) (a1_4 : Int) (a1_5 : Int) (a1_6 : Int) (a1_7 : Int) (a1_8 : Bool) (l1_9 : List Int) (l2 : List (List Int)) : Option (List Int × Int) := (move_Is.f a0).bind fun zak => (if zak = true then (if (l2.length : Int) = 1 then (if a0 = 40 then (move_Dims.j0 k a0 l2 ((l2.length : Int) != 2) a1_0 a1_1 a1_2 a1_3 a1_4 a1_5 a1_6 a1_7 a1_8 l1_9) else (move_Dims.j0 k a0 l2 false a1_0 a1_1 a1_2 a1_3 a1_4 a1_5 a1_6 a1_7 a1_8 l1_9)) else (if a0 = 40 then (move_Dims.j0 k a0 l2 ((l2.length : Int) != 2) a1_0 a1_1 a1_2 a1_3 a1_4 a1_5 a1_6 a1_7 a1_8 l1_9) else (move_Dims.j0 k a0 l2 true a1_0 a1_1 a1_2 a1_3 a1_4 a1_5 a1_6 a1_7 a1_8 l1_9))) else (some (([] : List Int), 14)))
def move_Dims.T14 : Bool × List (List Nat × List Nat) := (true, [([], []), ([0], [0]), ([1], [1]), ([], []), ([2, 3], [2, 3]), ([4], [4]), ([4], [4]), ([5, 4, 0, 1, 2, 3, 4, 5, 6], [5]), ([6, 7, 0, 1, 2, 3, 4, 5, 6, 7], [6])])
def move_Dims.B14 : List Nat := [0, 1, 3, 0, 15, 31, 31, 127, 255]
theorem move_Dims.tab14 : rtab .any (opsOf Try.f10 14) = move_Dims.T14 := by kernel_rfl
theorem move_Dims.bits14 : waitsOk move_Dims.T14.2 move_Dims.B14 = true := by kernel_rfl
def move_Dims.T16 : Bool × List (List Nat × List Nat) := (true, [([], []), ([0], [0]), ([1], [1]), ([], []), ([2, 3], [2, 3]), ([4], [4]), ([4], [4]), ([5, 4, 0, 1, 2, 3, 4, 5, 6], [5]), ([6, 7, 0, 1, 2, 3, 4, 5, 6, 7], [6])])
def move_Dims.B16 : List Nat := [0, 1, 3, 0, 15, 31, 31, 127, 255]
theorem move_Dims.tab16 : rtab .any (opsOf Try.f10 16) = move_Dims.T16 := by kernel_rfl
theorem move_Dims.bits16 : waitsOk move_Dims.T16.2 move_Dims.B16 = true := by kernel_rfl
def move_Dims.T18 : Bool × List (List Nat × List Nat) := (true, [([], []), ([0], [0]), ([1], [1]), ([], []), ([3], [3]), ([4], [4]), ([], []), ([6], [6]), ([2, 5, 7], [2, 5, 7]), ([8], [8]), ([8], [8]), ([9, 8, 0, 1, 2, 3, 4, 5, 6, 7, 8, 9, 10], [9]), ([10, 11, 0, 1, 2, 3, 4, 5, 6, 7, 8, 9, 10, 11], [10])])
def move_Dims.B18 : List Nat := [0, 1, 3, 0, 8, 24, 0, 64, 255, 511, 511, 2047, 4095]
theorem move_Dims.tab18 : rtab .any (opsOf Try.f10 18) = move_Dims.T18 := by kernel_rfl
theorem move_Dims.bits18 : waitsOk move_Dims.T18.2 move_Dims.B18 = true := by kernel_rfl
def move_Dims.T19 : Bool × List (List Nat × List Nat) := (true, [([], []), ([], []), ([], []), ([2], [2]), ([3], [3]), ([4], [4]), ([0, 1, 5, 5], [0, 1, 5]), ([6], [6]), ([7], [7]), ([7], [7]), ([], []), ([10, 8, 6, 0, 1, 2, 3, 4, 5, 6, 7, 8, 10], [8, 10]), ([9, 11, 0, 1, 2, 3, 4, 5, 6, 7, 8, 9, 10, 11], [9])])
def move_Dims.B19 : List Nat := [0, 0, 0, 4, 12, 28, 63, 127, 255, 255, 0, 1535, 4095]
theorem move_Dims.tab19 : rtab .any (opsOf Try.f10 19) = move_Dims.T19 := by kernel_rfl
theorem move_Dims.bits19 : waitsOk move_Dims.T19.2 move_Dims.B19 = true := by kernel_rfl
set_option maxHeartbeats 8000000 in
set_option maxRecDepth 100000 in
theorem move_Dims.calls (k : Nat) (a0 : Int) (a1_0 : Int) (a1_1 : Int) (a1_2 : Int) (a1_3 : Int) (a1_4 : Int) (a1_5 : Int) (a1_6 : Int) (a1_7 : Int) (a1_8 : Bool) (A1_9 : Option Addr) (c1_9 : Nat) (l1_9 : List Int) (A2 : Option Addr) (c2 : Nat) (l2 : List (List Int)) (r1 : List Int) (r2 : Int) (w : World) (hr1_9 : Kd.C (Kd.int .i64) w A1_9 l1_9.length l1_9) (hc1_9 : l1_9.length ≤ c1_9) (hr2 : Kd.C (Kd.slice 3 (Kd.int .i64)) w A2 l2.length l2) (hc2 : l2.length ≤ c2) (h : move_Dims.f k a0 a1_0 a1_1 a1_2 a1_3 a1_4 a1_5 a1_6 a1_7 a1_8 l1_9 l2 = some (r1, r2)) :
  Calls Try.prog 10 #[.int .i64 a0, .agg #[.int .i64 a1_0, .int .i64 a1_1, .int .i64 a1_2, .int .i64 a1_3, .int .i64 a1_4, .int .i64 a1_5, .int .i64 a1_6, .int .i64 a1_7, .bool a1_8, .slice A1_9 l1_9.length c1_9], .slice A2 l2.length c2] w fun e w' => ∃ v0_ : Value, e = .returned (.tuple #[v0_, .int .i64 r2]) ∧ Kd.R (Kd.int .i64) 3 w' w.heap.size (fun _ => True) v0_ r1 ∧ Below w.heap.size w w' := by
 have hu24 := Try.underlying24
 have hu56 := Try.underlying56
 have z6 := aM hr1_9
 have z7 := aM hc1_9
 clear hr1_9 hc1_9
 have HR2 := aM hr2
 have HC2 := aM hc2
 clear hr2 hc2
 have HB := aM (Below.refl w.heap.size w)
 have H : ((move_Is.f a0).bind fun zak => (if zak = true then (if (l2.length : Int) = 1 then (if a0 = 40 then (move_Dims.j0 k a0 l2 ((l2.length : Int) != 2) a1_0 a1_1 a1_2 a1_3 a1_4 a1_5 a1_6 a1_7 a1_8 l1_9) else (move_Dims.j0 k a0 l2 false a1_0 a1_1 a1_2 a1_3 a1_4 a1_5 a1_6 a1_7 a1_8 l1_9)) else (if a0 = 40 then (move_Dims.j0 k a0 l2 ((l2.length : Int) != 2) a1_0 a1_1 a1_2 a1_3 a1_4 a1_5 a1_6 a1_7 a1_8 l1_9) else (move_Dims.j0 k a0 l2 true a1_0 a1_1 a1_2 a1_3 a1_4 a1_5 a1_6 a1_7 a1_8 l1_9))) else (some (([] : List Int), 14)))) = some (r1, r2) := h
 clear h
 replace H := Option.bind_eq_some_iff.mp H
 obtain ⟨zak, A40, H⟩ := H
 try dsimp only at H
 have A4 := aM A40
 clear A40
 by_cases c5 : zak = true
 rotate_left
 ·replace c5 := Bool.eq_false_iff.mpr c5
  subst c5
  rw [if_neg (show ¬ (false = true) by decide)] at H
  simp only [Option.some.injEq, Prod.mk.injEq] at H
  obtain ⟨rfl, rfl⟩ := H
  go_enter Try.func10, Try.ntmps10
  go_wp2_with (first | ((with_reducible refine gate_dst (N := 4) rfl ?_); (try (refine gate_guard (by rfl) ?_; dsimp only)); refine box_event ?hg (N := 4) ?hd (cs := #[.int .i64 a1_0, .int .i64 a1_1, .int .i64 a1_2, .int .i64 a1_3, .int .i64 a1_4, .int .i64 a1_5, .int .i64 a1_6, .int .i64 a1_7, .bool a1_8, .slice A1_9 l1_9.length c1_9]) (t := 24) ?hr ?_; (case hd => rfl); (case hg => rfl); (case hr => first | (go_simp; done) | (go_simp; rfl)); intro zc hg w50 hbox hb; have za := aM (hbox); have zal := gE (w := w) hg (qB HB); have ze := zal; replace HB := bS (qB HB) hb; clear hb hbox hg) | ((with_reducible refine gate_callee (f := 21) rfl ?_); refine goesL_ (some 14) rfl rfl Try.func21 (by kernel_rfl) rfl #[.int .i64 a0] rfl pA ?_; (with_reducible refine (move_Is.calls a0 false _ A4.out).mono ?_); rintro e w' ⟨rfl, ⟨nd, rfl⟩⟩; refine ⟨_, rfl, ?_⟩))
  go_ret2
  exact ⟨_, pE, pN, qB1 HB ze⟩

 subst c5
 rw [if_pos rfl] at H
 have HC6 := aM H
 clear H
 go_enter Try.func10, Try.ntmps10
 go_upto_region 3 with (first | ((with_reducible refine gate_dst (N := 4) rfl ?_); (try (refine gate_guard (by rfl) ?_; dsimp only)); refine box_event ?hg (N := 4) ?hd (cs := #[.int .i64 a1_0, .int .i64 a1_1, .int .i64 a1_2, .int .i64 a1_3, .int .i64 a1_4, .int .i64 a1_5, .int .i64 a1_6, .int .i64 a1_7, .bool a1_8, .slice A1_9 l1_9.length c1_9]) (t := 24) ?hr ?_; (case hd => rfl); (case hg => rfl); (case hr => first | (go_simp; done) | (go_simp; rfl)); intro zc hg w7 hbox hb; have za := aM (hbox); have zal := gE (w := w) hg (qB HB); have ze := zal; replace HB := bS (qB HB) hb; clear hb hbox hg) | ((with_reducible refine gate_callee (f := 21) rfl ?_); refine goesL_ (some 14) rfl rfl Try.func21 (by kernel_rfl) rfl #[.int .i64 a0] rfl pA ?_; (with_reducible refine (move_Is.calls a0 true _ A4.out).mono ?_); rintro e w' ⟨rfl, ⟨nd, rfl⟩⟩; refine ⟨_, rfl, ?_⟩))
 (try simp only [Act.put, sP])
 go_cut [31] (fun v31 wc => ∃ (kq : Nat) (x31_5 : Bool), v31 = .bool x31_5 ∧ Aside0 (move_Dims.j0 kq a0 l2 x31_5 a1_0 a1_1 a1_2 a1_3 a1_4 a1_5 a1_6 a1_7 a1_8 l1_9 = some (r1, r2)) ∧ Aside0 (kq ≤ k) ∧ Aside0 (wc.heap[zc]? = some (.cells #[.int .i64 a1_0, .int .i64 a1_1, .int .i64 a1_2, .int .i64 a1_3, .int .i64 a1_4, .int .i64 a1_5, .int .i64 a1_6, .int .i64 a1_7, .bool a1_8, (.slice A1_9 l1_9.length c1_9)] 24 (0, 0))) ∧ Aside0 (Below w.heap.size w wc))
 case first =>
  have H := HC6.out
  clear HC6
  by_cases c8 : (l2.length : Int) = 1
  rotate_left
  ·rw [if_neg c8] at H
   have zam : ((l2.length : Int) == 1) = false := beq_eq_false_iff_ne.mpr c8
   have c8b1 : ((l2.length : Int) != 1) = true := bne_iff_ne.mpr c8
   (first | rw [zam] | (simp only [i64_w, i32_w]; rw [zam]) | skip)
   by_cases c10 : a0 = 40
   rotate_left
   ·rw [if_neg c10] at H
    have c10b0 : (a0 == 40) = false := beq_eq_false_iff_ne.mpr c10
    have c10b1 : (a0 != 40) = true := bne_iff_ne.mpr c10
    have H' := aM H
    clear H
    go_wp2
    go_meet
    case rel => exact ⟨_, (true), (pF), H', ⟨by first | omega | exact Nat.le_refl _⟩, ⟨pK za.out⟩, ⟨qB1 HB ze⟩⟩
   rw [if_pos c10] at H
   have c10b0 : (a0 == 40) = true := beq_iff_eq.mpr c10
   have c10b1 : (a0 != 40) = false := bne_eq_false_iff_eq.mpr c10
   clear c10
   have H' := aM H
   clear H
   go_wp2
   go_meet
   case rel => exact ⟨_, (((l2.length : Int) != 2)), (pF), H', ⟨by first | omega | exact Nat.le_refl _⟩, ⟨pK za.out⟩, ⟨qB1 HB ze⟩⟩
  rw [if_pos c8] at H
  have zam : ((l2.length : Int) == 1) = true := beq_iff_eq.mpr c8
  have c8b1 : ((l2.length : Int) != 1) = false := bne_eq_false_iff_eq.mpr c8
  clear c8
  (first | rw [zam] | (simp only [i64_w, i32_w]; rw [zam]) | skip)
  by_cases c9 : a0 = 40
  rotate_left
  ·rw [if_neg c9] at H
   have c9b0 : (a0 == 40) = false := beq_eq_false_iff_ne.mpr c9
   have c9b1 : (a0 != 40) = true := bne_iff_ne.mpr c9
   have H' := aM H
   clear H
   go_wp2
   go_meet
   case rel => exact ⟨_, (false), (pF), H', ⟨by first | omega | exact Nat.le_refl _⟩, ⟨pK za.out⟩, ⟨qB1 HB ze⟩⟩
  rw [if_pos c9] at H
  have c9b0 : (a0 == 40) = true := beq_iff_eq.mpr c9
  have c9b1 : (a0 != 40) = false := bne_eq_false_iff_eq.mpr c9
  clear c9
  have H' := aM H
  clear H
  go_wp2
  go_meet
  case rel => exact ⟨_, (((l2.length : Int) != 2)), (pF), H', ⟨by first | omega | exact Nat.le_refl _⟩, ⟨pK za.out⟩, ⟨qB1 HB ze⟩⟩
 case rest =>
  clear HC6
  try clear c2
  try clear c5
  obtain ⟨kq, x31_5, rfl, HA, HJ5, za, HB⟩ := hcut
  cases kq with
  | zero => exact absurd HA.out (by simp [move_Dims.j0])
  | succ kj5 =>
   have H := HA.out
   clear HA
   simp only [move_Dims.j0] at H
   by_cases c11 : x31_5 = true
   ·subst c11
    rw [if_pos rfl] at H
    simp only [Option.some.injEq, Prod.mk.injEq] at H
    obtain ⟨rfl, rfl⟩ := H
    go_wp2
    go_ret2
    exact ⟨_, pE, pN, qB1 HB ze⟩
   replace c11 := Bool.eq_false_iff.mpr c11
   subst c11
   rw [if_neg (show ¬ (false = true) by decide)] at H
   have H' := aM H
   clear H
   go_wp2
   go_loopg [34] kj5 (fun kq v34 w' => ∃ (x34_2 : Int), v34 = .int .i64 x34_2 ∧ Aside0 (move_Dims.l0 kq a0 l2 l2 (l2.length : Int) x34_2 a1_0 a1_1 a1_2 a1_3 a1_4 a1_5 a1_6 a1_7 a1_8 l1_9 = some (r1, r2)) ∧ Aside0 (kq ≤ kj5) ∧ Aside0 (w'.heap[zc]? = some (.cells #[.int .i64 a1_0, .int .i64 a1_1, .int .i64 a1_2, .int .i64 a1_3, .int .i64 a1_4, .int .i64 a1_5, .int .i64 a1_6, .int .i64 a1_7, .bool a1_8, (.slice A1_9 l1_9.length c1_9)] 24 (0, 0))) ∧ Aside0 (Below w.heap.size w w'))
   case atStart => exact ⟨(0), (pF), H', ⟨Nat.le_refl _⟩, ⟨pK za.out⟩, ⟨qB1 HB ze⟩⟩
   case round =>
    clear H'
    try clear c11
    obtain ⟨x34_2, rfl, HA, HK2, za, HB⟩ := hrel
    cases gk with
    | zero => exact absurd HA.out (by simp [move_Dims.l0])
    | succ k2 =>
     have H := HA.out
     clear HA
     simp only [move_Dims.l0] at H
     by_cases c12 : x34_2 < (l2.length : Int)
     ·rw [if_pos c12] at H
      have c12b0 : decide (x34_2 < (l2.length : Int)) = true := decide_eq_true c12
      clear c12
      by_cases c13 : 0 ≤ x34_2
      rotate_left
      ·rw [if_neg c13] at H
       exact absurd H (by simp)
      rw [if_pos c13] at H
      have c13b0 : decide (0 ≤ x34_2) = true := decide_eq_true c13
      clear c13
      by_cases c14 : x34_2 < (l2.length : Int)
      rotate_left
      ·rw [if_neg c14] at H
       exact absurd H (by simp)
      rw [if_pos c14] at H
      have c14b0 : decide (x34_2 < (l2.length : Int)) = true := decide_eq_true c14
      clear c14
      replace H := Option.bind_eq_some_iff.mp H
      obtain ⟨zz, zas, H⟩ := H
      try dsimp only at H
      have A15 := aM zas
      clear zas
      by_cases c16 : zz = 0
      rotate_left
      ·rw [if_neg c16] at H
       have c16b0 : (zz == 0) = false := beq_eq_false_iff_ne.mpr c16
       have c16b1 : (zz != 0) = true := bne_iff_ne.mpr c16
       simp only [Option.some.injEq, Prod.mk.injEq] at H
       obtain ⟨rfl, rfl⟩ := H
       have p328 : 0 ≤ (x34_2 : Int) := of_decide_eq_true pD
       have q328 : x34_2 < (l2.length : Int) := of_decide_eq_true pD
       obtain ⟨ad328, A328_0, c328_0, e328, hx328_0, hl328_0, hi328_0⟩ := at_L1 HR2.out x34_2 p328 q328
       cases e328
       replace hx328_0 := (HB.out.cell (World.block_lt_of_cell? w _ hx328_0)).trans hx328_0
       have z2 := aM hi328_0
       have z3 := aM hl328_0
       clear hi328_0 hl328_0
       replace p328 := eq_true p328
       replace q328 := eq_true q328
       go_wp2_with (first | ((with_reducible refine gate_callee (f := 22) rfl ?_); refine goesL_ (some 39) rfl rfl Try.func22 (by kernel_rfl) rfl #[.slice A328_0 (rd_L1 l2 x34_2).length c328_0] rfl pA ?_; (with_reducible refine (shape_Check.calls _ _ (rd_L1 l2 x34_2) zz _ ?s1 ?s2 A15.out).mono ?_); (case s1 => exact sC z2 HB); (case s2 => exact z3.out); rintro e w' ⟨rfl, ⟨nd, rfl⟩⟩; refine ⟨_, rfl, ?_⟩))
       go_ret2
       exact ⟨_, pE, pN, qB1 HB ze⟩
      rw [if_pos c16] at H
      have c16b0 : (zz == 0) = true := beq_iff_eq.mpr c16
      have c16b1 : (zz != 0) = false := bne_eq_false_iff_eq.mpr c16
      clear c16
      have H' := aM H
      clear H
      have p328 : 0 ≤ (x34_2 : Int) := of_decide_eq_true pD
      have q328 : x34_2 < (l2.length : Int) := of_decide_eq_true pD
      obtain ⟨ad328, A328_0, c328_0, e328, hx328_0, hl328_0, hi328_0⟩ := at_L1 HR2.out x34_2 p328 q328
      cases e328
      replace hx328_0 := (HB.out.cell (World.block_lt_of_cell? w _ hx328_0)).trans hx328_0
      have z2 := aM hi328_0
      have z3 := aM hl328_0
      clear hi328_0 hl328_0
      replace p328 := eq_true p328
      replace q328 := eq_true q328
      go_wp2_with (first | ((with_reducible refine gate_callee (f := 22) rfl ?_); refine goesL_ (some 39) rfl rfl Try.func22 (by kernel_rfl) rfl #[.slice A328_0 (rd_L1 l2 x34_2).length c328_0] rfl pA ?_; (with_reducible refine (shape_Check.calls _ _ (rd_L1 l2 x34_2) zz _ ?s1 ?s2 A15.out).mono ?_); (case s1 => exact sC z2 HB); (case s2 => exact z3.out); rintro e w' ⟨rfl, ⟨nd, rfl⟩⟩; refine ⟨_, rfl, ?_⟩))
      go_roundg k2
      case measure => have := HJ5.out; have := HK2.out; omega
      case rel => exact ⟨(wrap64 (x34_2 + 1)), (pF), H', ⟨by have := HJ5.out; have := HK2.out; omega⟩, ⟨pK za.out⟩, ⟨qB1 HB ze⟩⟩
     rw [if_neg c12] at H
     have c12b0 : decide (x34_2 < (l2.length : Int)) = false := decide_eq_false c12
     clear c12
     by_cases c17 : a0 = 38
     ·rw [if_pos c17] at H
      have c17b0 : (a0 == 38) = true := beq_iff_eq.mpr c17
      have c17b1 : (a0 != 38) = false := bne_eq_false_iff_eq.mpr c17
      clear c17
      by_cases c18 : 0 < (l2.length : Int)
      rotate_left
      ·rw [if_neg c18] at H
       exact absurd H (by simp)
      rw [if_pos c18] at H
      have c18b0 : decide (0 < (l2.length : Int)) = true := decide_eq_true c18
      have c18b1 : decide (0 < l2.length) = true := decide_eq_true (by omega)
      clear c18
      replace H := Option.bind_eq_some_iff.mp H
      obtain ⟨⟨t331, t334⟩, zat, H⟩ := H
      try dsimp only at H
      have A19 := aM zat
      clear zat
      simp only [Option.some.injEq, Prod.mk.injEq] at H
      obtain ⟨rfl, rfl⟩ := H
      try go_wp2
      replace za := aM (blk_drew za.out)
      replace HB := aM (below_drew1 HB.out)
      have p330 : 0 ≤ (0 : Int) := (by omega)
      have q330 : 0 < (l2.length : Int) := of_decide_eq_true pD
      obtain ⟨ad330, A330_0, c330_0, e330, hx330_0, hl330_0, hi330_0⟩ := at_L1 HR2.out 0 p330 q330
      have hw330_0 := hx330_0
      (try rw [show ((0 : Int)).toNat = 0 from rfl] at hw330_0)
      (try rw [show 0 * 1 = 0 from rfl] at hw330_0)
      (try rw [Addr.add_zero'] at hw330_0)
      cases e330
      have qi330 : (0 < l2.length) = True := eq_true (by omega)
      (try rw [show ((0 : Int)).toNat = 0 from rfl] at hx330_0)
      (try rw [Addr.add_zero'] at hx330_0)
      replace hx330_0 := (HB.out.cell (World.block_lt_of_cell? w _ hx330_0)).trans hx330_0
      have zab := aM hi330_0
      have HC330_0 := aM hl330_0
      clear hi330_0 hl330_0
      replace p330 := eq_true p330
      replace q330 := eq_true q330
      refine start_ (n := 9) (S := fun w' => w'.cell? ⟨zc, 0, none⟩ = some (.int .i64 a1_0) ∧ w'.cell? ⟨zc, 1, none⟩ = some (.int .i64 a1_1) ∧ w'.cell? ⟨zc, 2, none⟩ = some (.int .i64 a1_2) ∧ w'.cell? ⟨zc, 3, none⟩ = some (.int .i64 a1_3) ∧ w'.cell? ⟨zc, 4, none⟩ = some (.int .i64 a1_4) ∧ w'.cell? ⟨zc, 5, none⟩ = some (.int .i64 a1_5) ∧ w'.cell? ⟨zc, 6, none⟩ = some (.int .i64 a1_6) ∧ w'.cell? ⟨zc, 7, none⟩ = some (.int .i64 a1_7) ∧ w'.cell? ⟨zc, 8, none⟩ = some (.bool a1_8) ∧ w'.cell? ⟨zc, 9, none⟩ = some (.slice A1_9 l1_9.length c1_9) ∧ w'.cell? ad330 = some (.slice A330_0 (rd_L1 l2 0).length c330_0)) (ds := []) (bm 9 0) (by kernel_rfl) rfl rfl ⟨(blk_cell za.out 0).trans rfl, (blk_cell za.out 1).trans rfl, (blk_cell za.out 2).trans rfl, (blk_cell za.out 3).trans rfl, (blk_cell za.out 4).trans rfl, (blk_cell za.out 5).trans rfl, (blk_cell za.out 6).trans rfl, (blk_cell za.out 7).trans rfl, (blk_cell za.out 8).trans rfl, (blk_cell za.out 9).trans rfl, ((HB.out.cell (World.block_lt_of_cell? w _ hw330_0)).trans hw330_0)⟩ (fun hHeld => ?_); refine with_tabW move_Dims.tab14 move_Dims.bits14 (fun HT_ HW_ => ?_)
      generalize wr.drew = w20 at za HB zab hx330_0 hHeld ⊢
      refine pP (i := 0) (N := some 47) (bm 9 1) rfl rfl HT_.out ?_
      refine pP (i := 1) (N := some 48) (bm 9 3) rfl rfl HT_.out ?_
      refine pT (i := 2) (N := some 49) (bm 9 7) rfl rfl HT_.out HW_.out hHeld (by rintro w' ⟨s0, s1, s2, s3, s4, s5, s6, s7, s8, s9, s10⟩; go_simp; with_reducible rfl) ?_
      refine pT (i := 3) (N := some 50) (bm 9 15) rfl rfl HT_.out HW_.out hHeld (by rintro w' ⟨s0, s1, s2, s3, s4, s5, s6, s7, s8, s9, s10⟩; go_simp; with_reducible rfl) ?_
      refine one_ (i := 4) (N := some 51) (bm 9 31) rfl rfl (one_of HT_.out (by kernel_rfl)) (by decide) (fun K hK => ?_)
      refine goes_ Try.func23 (by kernel_rfl) rfl #[.slice A330_0 (rd_L1 l2 0).length c330_0, .agg #[.int .i64 a1_0, .int .i64 a1_1, .int .i64 a1_2, .int .i64 a1_3, .int .i64 a1_4, .int .i64 a1_5, .int .i64 a1_6, .int .i64 a1_7, .bool a1_8, .slice A1_9 l1_9.length c1_9]] (by rfl) rfl rfl pA ?_
      with_reducible refine (move_taken.calls k2 _ _ (rd_L1 l2 0) a1_0 a1_1 a1_2 a1_3 a1_4 a1_5 a1_6 a1_7 a1_8 _ _ l1_9 t331 t334 _ ?s1 ?s2 ?s3 ?s4 A19.out).mono ?_
      (case s1 => exact sC zab HB)
      (case s2 => exact HC330_0.out)
      (case s3 => exact sC z6 HB)
      (case s4 => exact z7.out)
      rintro e w21 ⟨v332, rfl, ho0, hb⟩
      refine ⟨_, rfl, ?_⟩
      have HO333 := aM (Kd.R_lower ho0 (below_size (qB1 HB ze)))
      replace za := bK za hb
      replace HB := bS (qB1 HB ze) hb
      (try clear hb)
      (try clear ho0)
      refine hK.out _ _ ⟨(blk_cell za.out 0).trans rfl, (blk_cell za.out 1).trans rfl, (blk_cell za.out 2).trans rfl, (blk_cell za.out 3).trans rfl, (blk_cell za.out 4).trans rfl, (blk_cell za.out 5).trans rfl, (blk_cell za.out 6).trans rfl, (blk_cell za.out 7).trans rfl, (blk_cell za.out 8).trans rfl, (blk_cell za.out 9).trans rfl, ((HB.out.cell (World.block_lt_of_cell? w _ hw330_0)).trans hw330_0)⟩ (fun hHeld => ?_)
      clear hK K
      refine norm_ (a' := ?_) ?_ ?_
      rotate_left
      ·show Act.put _ (some 51) _ = _
       simp only [Act.put, sP, i64_w, i32_w]
       rfl
      refine pP (i := 5) (N := some 52) (bm 9 63) rfl rfl HT_.out ?_
      refine pP (i := 6) (N := some 53) (bm 9 127) rfl rfl HT_.out ?_
      refine pP (i := 7) (N := some 6) (bm 9 255) rfl rfl HT_.out ?_
      refine pP (i := 8) (N := some 7) (bm 9 511) rfl rfl HT_.out ?_
      refine done_ (done_of HT_.out (by kernel_rfl)) ?_
      try go_wp2
      go_ret2
      exact ⟨_, pE, pR HO333.out, qB1 HB ze⟩
     rw [if_neg c17] at H
     have c17b0 : (a0 == 38) = false := beq_eq_false_iff_ne.mpr c17
     have c17b1 : (a0 != 38) = true := bne_iff_ne.mpr c17
     by_cases c22 : a0 = 39
     ·rw [if_pos c22] at H
      have c22b0 : (a0 == 39) = true := beq_iff_eq.mpr c22
      have c22b1 : (a0 != 39) = false := bne_eq_false_iff_eq.mpr c22
      clear c22
      by_cases c23 : 0 < (l2.length : Int)
      rotate_left
      ·rw [if_neg c23] at H
       exact absurd H (by simp)
      rw [if_pos c23] at H
      have c23b0 : decide (0 < (l2.length : Int)) = true := decide_eq_true c23
      have c23b1 : decide (0 < l2.length) = true := decide_eq_true (by omega)
      clear c23
      replace H := Option.bind_eq_some_iff.mp H
      obtain ⟨⟨t336, t339⟩, zau, H⟩ := H
      try dsimp only at H
      have A24 := aM zau
      clear zau
      simp only [Option.some.injEq, Prod.mk.injEq] at H
      obtain ⟨rfl, rfl⟩ := H
      try go_wp2
      replace za := aM (blk_drew za.out)
      replace HB := aM (below_drew1 HB.out)
      have p335 : 0 ≤ (0 : Int) := (by omega)
      have q335 : 0 < (l2.length : Int) := of_decide_eq_true pD
      obtain ⟨ad335, A335_0, c335_0, e335, hx335_0, hl335_0, hi335_0⟩ := at_L1 HR2.out 0 p335 q335
      have hw335_0 := hx335_0
      (try rw [show ((0 : Int)).toNat = 0 from rfl] at hw335_0)
      (try rw [show 0 * 1 = 0 from rfl] at hw335_0)
      (try rw [Addr.add_zero'] at hw335_0)
      cases e335
      have qi335 : (0 < l2.length) = True := eq_true (by omega)
      (try rw [show ((0 : Int)).toNat = 0 from rfl] at hx335_0)
      (try rw [Addr.add_zero'] at hx335_0)
      replace hx335_0 := (HB.out.cell (World.block_lt_of_cell? w _ hx335_0)).trans hx335_0
      have zac := aM hi335_0
      have HC335_0 := aM hl335_0
      clear hi335_0 hl335_0
      replace p335 := eq_true p335
      replace q335 := eq_true q335
      refine start_ (n := 9) (S := fun w' => w'.cell? ⟨zc, 0, none⟩ = some (.int .i64 a1_0) ∧ w'.cell? ⟨zc, 1, none⟩ = some (.int .i64 a1_1) ∧ w'.cell? ⟨zc, 2, none⟩ = some (.int .i64 a1_2) ∧ w'.cell? ⟨zc, 3, none⟩ = some (.int .i64 a1_3) ∧ w'.cell? ⟨zc, 4, none⟩ = some (.int .i64 a1_4) ∧ w'.cell? ⟨zc, 5, none⟩ = some (.int .i64 a1_5) ∧ w'.cell? ⟨zc, 6, none⟩ = some (.int .i64 a1_6) ∧ w'.cell? ⟨zc, 7, none⟩ = some (.int .i64 a1_7) ∧ w'.cell? ⟨zc, 8, none⟩ = some (.bool a1_8) ∧ w'.cell? ⟨zc, 9, none⟩ = some (.slice A1_9 l1_9.length c1_9) ∧ w'.cell? ad335 = some (.slice A335_0 (rd_L1 l2 0).length c335_0)) (ds := []) (bm 9 0) (by kernel_rfl) rfl rfl ⟨(blk_cell za.out 0).trans rfl, (blk_cell za.out 1).trans rfl, (blk_cell za.out 2).trans rfl, (blk_cell za.out 3).trans rfl, (blk_cell za.out 4).trans rfl, (blk_cell za.out 5).trans rfl, (blk_cell za.out 6).trans rfl, (blk_cell za.out 7).trans rfl, (blk_cell za.out 8).trans rfl, (blk_cell za.out 9).trans rfl, ((HB.out.cell (World.block_lt_of_cell? w _ hw335_0)).trans hw335_0)⟩ (fun hHeld => ?_); refine with_tabW move_Dims.tab16 move_Dims.bits16 (fun HT_ HW_ => ?_)
      generalize wr.drew = w25 at za HB zac hx335_0 hHeld ⊢
      refine pP (i := 0) (N := some 56) (bm 9 1) rfl rfl HT_.out ?_
      refine pP (i := 1) (N := some 57) (bm 9 3) rfl rfl HT_.out ?_
      refine pT (i := 2) (N := some 58) (bm 9 7) rfl rfl HT_.out HW_.out hHeld (by rintro w' ⟨s0, s1, s2, s3, s4, s5, s6, s7, s8, s9, s10⟩; go_simp; with_reducible rfl) ?_
      refine pT (i := 3) (N := some 59) (bm 9 15) rfl rfl HT_.out HW_.out hHeld (by rintro w' ⟨s0, s1, s2, s3, s4, s5, s6, s7, s8, s9, s10⟩; go_simp; with_reducible rfl) ?_
      refine one_ (i := 4) (N := some 60) (bm 9 31) rfl rfl (one_of HT_.out (by kernel_rfl)) (by decide) (fun K hK => ?_)
      refine goes_ Try.func24 (by kernel_rfl) rfl #[.slice A335_0 (rd_L1 l2 0).length c335_0, .agg #[.int .i64 a1_0, .int .i64 a1_1, .int .i64 a1_2, .int .i64 a1_3, .int .i64 a1_4, .int .i64 a1_5, .int .i64 a1_6, .int .i64 a1_7, .bool a1_8, .slice A1_9 l1_9.length c1_9]] (by rfl) rfl rfl pA ?_
      with_reducible refine (move_put.calls k2 _ _ (rd_L1 l2 0) a1_0 a1_1 a1_2 a1_3 a1_4 a1_5 a1_6 a1_7 a1_8 _ _ l1_9 t336 t339 _ ?s1 ?s2 ?s3 ?s4 A24.out).mono ?_
      (case s1 => exact sC zac HB)
      (case s2 => exact HC335_0.out)
      (case s3 => exact sC z6 HB)
      (case s4 => exact z7.out)
      rintro e w26 ⟨v337, rfl, ho0, hb⟩
      refine ⟨_, rfl, ?_⟩
      have HO338 := aM (Kd.R_lower ho0 (below_size (qB1 HB ze)))
      replace za := bK za hb
      replace HB := bS (qB1 HB ze) hb
      (try clear hb)
      (try clear ho0)
      refine hK.out _ _ ⟨(blk_cell za.out 0).trans rfl, (blk_cell za.out 1).trans rfl, (blk_cell za.out 2).trans rfl, (blk_cell za.out 3).trans rfl, (blk_cell za.out 4).trans rfl, (blk_cell za.out 5).trans rfl, (blk_cell za.out 6).trans rfl, (blk_cell za.out 7).trans rfl, (blk_cell za.out 8).trans rfl, (blk_cell za.out 9).trans rfl, ((HB.out.cell (World.block_lt_of_cell? w _ hw335_0)).trans hw335_0)⟩ (fun hHeld => ?_)
      clear hK K
      refine norm_ (a' := ?_) ?_ ?_
      rotate_left
      ·show Act.put _ (some 60) _ = _
       simp only [Act.put, sP, i64_w, i32_w]
       rfl
      refine pP (i := 5) (N := some 61) (bm 9 63) rfl rfl HT_.out ?_
      refine pP (i := 6) (N := some 62) (bm 9 127) rfl rfl HT_.out ?_
      refine pP (i := 7) (N := some 6) (bm 9 255) rfl rfl HT_.out ?_
      refine pP (i := 8) (N := some 7) (bm 9 511) rfl rfl HT_.out ?_
      refine done_ (done_of HT_.out (by kernel_rfl)) ?_
      try go_wp2
      go_ret2
      exact ⟨_, pE, pR HO338.out, qB1 HB ze⟩
     rw [if_neg c22] at H
     have c22b0 : (a0 == 39) = false := beq_eq_false_iff_ne.mpr c22
     have c22b1 : (a0 != 39) = true := bne_iff_ne.mpr c22
     by_cases c27 : a0 = 40
     ·rw [if_pos c27] at H
      have c27b0 : (a0 == 40) = true := beq_iff_eq.mpr c27
      have c27b1 : (a0 != 40) = false := bne_eq_false_iff_eq.mpr c27
      clear c27
      by_cases c28 : 0 < (l2.length : Int)
      rotate_left
      ·rw [if_neg c28] at H
       exact absurd H (by simp)
      rw [if_pos c28] at H
      have c28b0 : decide (0 < (l2.length : Int)) = true := decide_eq_true c28
      have c28b1 : decide (0 < l2.length) = true := decide_eq_true (by omega)
      clear c28
      by_cases c29 : 1 < (l2.length : Int)
      rotate_left
      ·rw [if_neg c29] at H
       exact absurd H (by simp)
      rw [if_pos c29] at H
      have c29b0 : decide (1 < (l2.length : Int)) = true := decide_eq_true c29
      have c29b1 : decide (1 < l2.length) = true := decide_eq_true (by omega)
      clear c29
      replace H := Option.bind_eq_some_iff.mp H
      obtain ⟨⟨t342, t343⟩, zav, H⟩ := H
      try dsimp only at H
      have A30 := aM zav
      clear zav
      simp only [Option.some.injEq, Prod.mk.injEq] at H
      obtain ⟨rfl, rfl⟩ := H
      try go_wp2
      replace za := aM (blk_drew za.out)
      replace HB := aM (below_drew1 HB.out)
      have p340 : 0 ≤ (0 : Int) := (by omega)
      have q340 : 0 < (l2.length : Int) := of_decide_eq_true pD
      obtain ⟨ad340, A340_0, c340_0, e340, hx340_0, hl340_0, hi340_0⟩ := at_L1 HR2.out 0 p340 q340
      have hw340_0 := hx340_0
      (try rw [show ((0 : Int)).toNat = 0 from rfl] at hw340_0)
      (try rw [show 0 * 1 = 0 from rfl] at hw340_0)
      (try rw [Addr.add_zero'] at hw340_0)
      cases e340
      have qi340 : (0 < l2.length) = True := eq_true (by omega)
      (try rw [show ((0 : Int)).toNat = 0 from rfl] at hx340_0)
      (try rw [Addr.add_zero'] at hx340_0)
      replace hx340_0 := (HB.out.cell (World.block_lt_of_cell? w _ hx340_0)).trans hx340_0
      have zad := aM hi340_0
      have HC340_0 := aM hl340_0
      clear hi340_0 hl340_0
      replace p340 := eq_true p340
      replace q340 := eq_true q340
      have p341 : 0 ≤ (1 : Int) := (by omega)
      have q341 : 1 < (l2.length : Int) := of_decide_eq_true pD
      obtain ⟨ad341, A341_0, c341_0, e341, hx341_0, hl341_0, hi341_0⟩ := at_L1 HR2.out 1 p341 q341
      have hw341_0 := hx341_0
      (try rw [show ((1 : Int)).toNat = 1 from rfl] at hw341_0)
      (try rw [show 1 * 1 = 1 from rfl] at hw341_0)
      (try simp only [Nat.reduceMul, Nat.reduceEqDiff, Go.Addr.add, ↓reduceIte] at hw341_0)
      obtain rfl : ad340 = ad341 := (by injection e341)
      (try simp only [show (1 : Int).toNat = 1 from rfl, Nat.reduceMul, Nat.reduceEqDiff, Go.Addr.add, ↓reduceIte] at hx341_0)
      have qi341 : (1 < l2.length) = True := eq_true (by omega)
      (try rw [show ((1 : Int)).toNat = 1 from rfl] at hx341_0)
      replace hx341_0 := (HB.out.cell (World.block_lt_of_cell? w _ hx341_0)).trans hx341_0
      have zae := aM hi341_0
      have HC341_0 := aM hl341_0
      clear hi341_0 hl341_0
      replace p341 := eq_true p341
      replace q341 := eq_true q341
      refine start_ (n := 13) (S := fun w' => w'.cell? ⟨zc, 0, none⟩ = some (.int .i64 a1_0) ∧ w'.cell? ⟨zc, 1, none⟩ = some (.int .i64 a1_1) ∧ w'.cell? ⟨zc, 2, none⟩ = some (.int .i64 a1_2) ∧ w'.cell? ⟨zc, 3, none⟩ = some (.int .i64 a1_3) ∧ w'.cell? ⟨zc, 4, none⟩ = some (.int .i64 a1_4) ∧ w'.cell? ⟨zc, 5, none⟩ = some (.int .i64 a1_5) ∧ w'.cell? ⟨zc, 6, none⟩ = some (.int .i64 a1_6) ∧ w'.cell? ⟨zc, 7, none⟩ = some (.int .i64 a1_7) ∧ w'.cell? ⟨zc, 8, none⟩ = some (.bool a1_8) ∧ w'.cell? ⟨zc, 9, none⟩ = some (.slice A1_9 l1_9.length c1_9) ∧ w'.cell? ad340 = some (.slice A340_0 (rd_L1 l2 0).length c340_0) ∧ w'.cell? ⟨ad340.block, ad340.off + 1, none⟩ = some (.slice A341_0 (rd_L1 l2 1).length c341_0)) (ds := []) (bm 13 0) (by kernel_rfl) rfl rfl ⟨(blk_cell za.out 0).trans rfl, (blk_cell za.out 1).trans rfl, (blk_cell za.out 2).trans rfl, (blk_cell za.out 3).trans rfl, (blk_cell za.out 4).trans rfl, (blk_cell za.out 5).trans rfl, (blk_cell za.out 6).trans rfl, (blk_cell za.out 7).trans rfl, (blk_cell za.out 8).trans rfl, (blk_cell za.out 9).trans rfl, ((HB.out.cell (World.block_lt_of_cell? w _ hw340_0)).trans hw340_0), ((HB.out.cell (World.block_lt_of_cell? w _ hw341_0)).trans hw341_0)⟩ (fun hHeld => ?_); refine with_tabW move_Dims.tab18 move_Dims.bits18 (fun HT_ HW_ => ?_)
      generalize wr.drew = w31 at za HB zad zae hx340_0 hx341_0 hHeld ⊢
      refine pP (i := 0) (N := some 65) (bm 13 1) rfl rfl HT_.out ?_
      refine pP (i := 1) (N := some 66) (bm 13 3) rfl rfl HT_.out ?_
      refine pP (i := 3) (N := some 68) (bm 13 11) rfl rfl HT_.out ?_
      refine pP (i := 4) (N := some 69) (bm 13 27) rfl rfl HT_.out ?_
      refine pP (i := 6) (N := some 71) (bm 13 91) rfl rfl HT_.out ?_
      refine pT (i := 2) (N := some 67) (bm 13 95) rfl rfl HT_.out HW_.out hHeld (by rintro w' ⟨s0, s1, s2, s3, s4, s5, s6, s7, s8, s9, s10, s11⟩; go_simp; with_reducible rfl) ?_
      refine pT (i := 5) (N := some 70) (bm 13 127) rfl rfl HT_.out HW_.out hHeld (by rintro w' ⟨s0, s1, s2, s3, s4, s5, s6, s7, s8, s9, s10, s11⟩; go_simp; with_reducible rfl) ?_
      refine pT (i := 7) (N := some 72) (bm 13 255) rfl rfl HT_.out HW_.out hHeld (by rintro w' ⟨s0, s1, s2, s3, s4, s5, s6, s7, s8, s9, s10, s11⟩; go_simp; with_reducible rfl) ?_
      refine one_ (i := 8) (N := some 73) (bm 13 511) rfl rfl (one_of HT_.out (by kernel_rfl)) (by decide) (fun K hK => ?_)
      refine goes_ Try.func25 (by kernel_rfl) rfl #[.slice A340_0 (rd_L1 l2 0).length c340_0, .slice A341_0 (rd_L1 l2 1).length c341_0, .int .i64 a1_0] (by rfl) rfl rfl pA ?_
      with_reducible refine (move_joined.calls k2 _ _ (rd_L1 l2 0) _ _ (rd_L1 l2 1) a1_0 t342 t343 _ ?s1 ?s2 ?s3 ?s4 A30.out).mono ?_
      (case s1 => exact sC zad HB)
      (case s2 => exact HC340_0.out)
      (case s3 => exact sC zae HB)
      (case s4 => exact HC341_0.out)
      rintro e w32 ⟨v344, rfl, ho0, hb⟩
      refine ⟨_, rfl, ?_⟩
      have HO345 := aM (Kd.R_lower ho0 (below_size (qB1 HB ze)))
      replace za := bK za hb
      replace HB := bS (qB1 HB ze) hb
      (try clear hb)
      (try clear ho0)
      refine hK.out _ _ ⟨(blk_cell za.out 0).trans rfl, (blk_cell za.out 1).trans rfl, (blk_cell za.out 2).trans rfl, (blk_cell za.out 3).trans rfl, (blk_cell za.out 4).trans rfl, (blk_cell za.out 5).trans rfl, (blk_cell za.out 6).trans rfl, (blk_cell za.out 7).trans rfl, (blk_cell za.out 8).trans rfl, (blk_cell za.out 9).trans rfl, ((HB.out.cell (World.block_lt_of_cell? w _ hw340_0)).trans hw340_0), ((HB.out.cell (World.block_lt_of_cell? w _ hw341_0)).trans hw341_0)⟩ (fun hHeld => ?_)
      clear hK K
      refine norm_ (a' := ?_) ?_ ?_
      rotate_left
      ·show Act.put _ (some 73) _ = _
       simp only [Act.put, sP, i64_w, i32_w]
       rfl
      refine pP (i := 9) (N := some 74) (bm 13 1023) rfl rfl HT_.out ?_
      refine pP (i := 10) (N := some 75) (bm 13 2047) rfl rfl HT_.out ?_
      refine pP (i := 11) (N := some 6) (bm 13 4095) rfl rfl HT_.out ?_
      refine pP (i := 12) (N := some 7) (bm 13 8191) rfl rfl HT_.out ?_
      refine done_ (done_of HT_.out (by kernel_rfl)) ?_
      try go_wp2
      go_ret2
      exact ⟨_, pE, pR HO345.out, qB1 HB ze⟩
     rw [if_neg c27] at H
     have c27b0 : (a0 == 40) = false := beq_eq_false_iff_ne.mpr c27
     have c27b1 : (a0 != 40) = true := bne_iff_ne.mpr c27
     by_cases c33 : 0 < (l2.length : Int)
     rotate_left
     ·rw [if_neg c33] at H
      exact absurd H (by simp)
     rw [if_pos c33] at H
     have c33b0 : decide (0 < (l2.length : Int)) = true := decide_eq_true c33
     have c33b1 : decide (0 < l2.length) = true := decide_eq_true (by omega)
     clear c33
     replace H := Option.bind_eq_some_iff.mp H
     obtain ⟨⟨z4, zx, zy⟩, zaw, H⟩ := H
     try dsimp only at H
     have A34 := aM zaw
     clear zaw
     replace H := Option.bind_eq_some_iff.mp H
     obtain ⟨⟨zag, zan, zao, zah⟩, zax, H⟩ := H
     try dsimp only at H
     have A35 := aM zax
     clear zax
     simp only [Option.some.injEq, Prod.mk.injEq] at H
     obtain ⟨rfl, rfl⟩ := H
     try go_wp2
     replace za := aM (blk_drew za.out)
     replace HB := aM (below_drew1 HB.out)
     have p346 : 0 ≤ (0 : Int) := (by omega)
     have q346 : 0 < (l2.length : Int) := of_decide_eq_true pD
     obtain ⟨ad346, A346_0, c346_0, e346, hx346_0, hl346_0, hi346_0⟩ := at_L1 HR2.out 0 p346 q346
     have hw346_0 := hx346_0
     (try rw [show ((0 : Int)).toNat = 0 from rfl] at hw346_0)
     (try rw [show 0 * 1 = 0 from rfl] at hw346_0)
     (try rw [Addr.add_zero'] at hw346_0)
     cases e346
     have qi346 : (0 < l2.length) = True := eq_true (by omega)
     (try rw [show ((0 : Int)).toNat = 0 from rfl] at hx346_0)
     (try rw [Addr.add_zero'] at hx346_0)
     replace hx346_0 := (HB.out.cell (World.block_lt_of_cell? w _ hx346_0)).trans hx346_0
     have z5 := aM hi346_0
     have zaf := aM hl346_0
     clear hi346_0 hl346_0
     replace p346 := eq_true p346
     replace q346 := eq_true q346
     refine start_ (n := 13) (S := fun w' => w'.cell? ⟨zc, 0, none⟩ = some (.int .i64 a1_0) ∧ w'.cell? ⟨zc, 1, none⟩ = some (.int .i64 a1_1) ∧ w'.cell? ⟨zc, 2, none⟩ = some (.int .i64 a1_2) ∧ w'.cell? ⟨zc, 3, none⟩ = some (.int .i64 a1_3) ∧ w'.cell? ⟨zc, 4, none⟩ = some (.int .i64 a1_4) ∧ w'.cell? ⟨zc, 5, none⟩ = some (.int .i64 a1_5) ∧ w'.cell? ⟨zc, 6, none⟩ = some (.int .i64 a1_6) ∧ w'.cell? ⟨zc, 7, none⟩ = some (.int .i64 a1_7) ∧ w'.cell? ⟨zc, 8, none⟩ = some (.bool a1_8) ∧ w'.cell? ⟨zc, 9, none⟩ = some (.slice A1_9 l1_9.length c1_9) ∧ w'.cell? ad346 = some (.slice A346_0 (rd_L1 l2 0).length c346_0)) (ds := []) (bm 13 0) (by kernel_rfl) rfl rfl ⟨(blk_cell za.out 0).trans rfl, (blk_cell za.out 1).trans rfl, (blk_cell za.out 2).trans rfl, (blk_cell za.out 3).trans rfl, (blk_cell za.out 4).trans rfl, (blk_cell za.out 5).trans rfl, (blk_cell za.out 6).trans rfl, (blk_cell za.out 7).trans rfl, (blk_cell za.out 8).trans rfl, (blk_cell za.out 9).trans rfl, ((HB.out.cell (World.block_lt_of_cell? w _ hw346_0)).trans hw346_0)⟩ (fun hHeld => ?_); refine with_tabW move_Dims.tab19 move_Dims.bits19 (fun HT_ HW_ => ?_)
     generalize wr.drew = w36 at za HB z5 hx346_0 hHeld ⊢
     refine pP (i := 0) (N := some 77) (bm 13 1) rfl rfl HT_.out ?_
     refine pP (i := 2) (N := some 79) (bm 13 5) rfl rfl HT_.out ?_
     refine pP (i := 3) (N := some 80) (bm 13 13) rfl rfl HT_.out ?_
     refine pT (i := 1) (N := some 78) (bm 13 15) rfl rfl HT_.out HW_.out hHeld (by rintro w' ⟨s0, s1, s2, s3, s4, s5, s6, s7, s8, s9, s10⟩; go_simp; with_reducible rfl) ?_
     refine pT (i := 4) (N := some 81) (bm 13 31) rfl rfl HT_.out HW_.out hHeld (by rintro w' ⟨s0, s1, s2, s3, s4, s5, s6, s7, s8, s9, s10⟩; go_simp; with_reducible rfl) ?_
     refine join_ (σ := Value × Value × Value × Value × Nat) 2 (bm 13 2047) (fun s_ => [(82, .agg #[.int .i64 z4, s_.1, s_.2.1]), (83, .tuple #[.agg #[.int .i64 zag, s_.2.2.1, s_.2.2.2.1], .int .i64 zah]), (11, .pointer (some ⟨s_.2.2.2.2, 0, none⟩)), (76, .tuple #[.agg #[.int .i64 zag, s_.2.2.1, s_.2.2.2.1], .int .i64 zah]), (84, .agg #[.int .i64 zag, s_.2.2.1, s_.2.2.2.1]), (85, .int .i64 zah)]) (fun s_ w' => (w'.cell? ⟨zc, 0, none⟩ = some (.int .i64 a1_0) ∧ w'.cell? ⟨zc, 1, none⟩ = some (.int .i64 a1_1) ∧ w'.cell? ⟨zc, 2, none⟩ = some (.int .i64 a1_2) ∧ w'.cell? ⟨zc, 3, none⟩ = some (.int .i64 a1_3) ∧ w'.cell? ⟨zc, 4, none⟩ = some (.int .i64 a1_4) ∧ w'.cell? ⟨zc, 5, none⟩ = some (.int .i64 a1_5) ∧ w'.cell? ⟨zc, 6, none⟩ = some (.int .i64 a1_6) ∧ w'.cell? ⟨zc, 7, none⟩ = some (.int .i64 a1_7) ∧ w'.cell? ⟨zc, 8, none⟩ = some (.bool a1_8) ∧ w'.cell? ⟨zc, 9, none⟩ = some (.slice A1_9 l1_9.length c1_9) ∧ w'.cell? ad346 = some (.slice A346_0 (rd_L1 l2 0).length c346_0)) ∧ (Kd.R (Kd.int .i64) 3 w' w.heap.size (fun k_ => some k_ ≠ (s_.2.1 : Value).ownBlock ∧ some k_ ≠ (s_.2.2.1 : Value).ownBlock ∧ some k_ ≠ (s_.2.2.2.1 : Value).ownBlock) s_.1 zx) ∧ (Kd.R (Kd.int .i64) 3 w' w.heap.size (fun k_ => some k_ ≠ (s_.1 : Value).ownBlock ∧ some k_ ≠ (s_.2.2.1 : Value).ownBlock ∧ some k_ ≠ (s_.2.2.2.1 : Value).ownBlock) s_.2.1 zy) ∧ (Kd.R (Kd.int .i64) 3 w' w.heap.size (fun k_ => some k_ ≠ (s_.1 : Value).ownBlock ∧ some k_ ≠ (s_.2.1 : Value).ownBlock ∧ some k_ ≠ (s_.2.2.2.1 : Value).ownBlock) s_.2.2.1 zan) ∧ (Kd.R (Kd.int .i64) 3 w' w.heap.size (fun k_ => some k_ ≠ (s_.1 : Value).ownBlock ∧ some k_ ≠ (s_.2.1 : Value).ownBlock ∧ some k_ ≠ (s_.2.2.1 : Value).ownBlock) s_.2.2.2.1 zao) ∧ (w'.heap[zc]? = some (.cells #[.int .i64 a1_0, .int .i64 a1_1, .int .i64 a1_2, .int .i64 a1_3, .int .i64 a1_4, .int .i64 a1_5, .int .i64 a1_6, .int .i64 a1_7, .bool a1_8, .slice A1_9 l1_9.length c1_9] 24 (0, 0))) ∧ (w'.heap[s_.2.2.2.2]? = some (.cells #[.int .i64 0, .slice none 0 0, .slice none 0 0] 56 (0, 0))) ∧ (w.heap.size ≤ s_.2.2.2.2) ∧ (w.heap.size ≤ s_.2.2.2.2) ∧ (zc ≠ s_.2.2.2.2) ∧ (s_.2.2.2.2 ≠ zc) ∧ (Below w.heap.size w w')) ?_ ?_
     rotate_left
     ·intro hCont
      refine two_ (i := 5) (j := 10) (Ni := some 82) (Nj := some 11) (bm 13 63) (bm 13 1055) rfl rfl rfl rfl (two_of HT_.out (by kernel_rfl)) (by decide) (by decide) (fun K hK => ?_) (fun K hK => ?_)
      ·skip
       refine goes_ Try.func27 (by kernel_rfl) rfl #[.slice A346_0 (rd_L1 l2 0).length c346_0] (by rfl) rfl rfl pA ?_
       with_reducible refine (view_Whole.calls k2 _ _ (rd_L1 l2 0) z4 zx zy _ ?s1 ?s2 A34.out).mono ?_
       (case s1 => exact sC z5 HB)
       (case s2 => exact zaf.out)
       rintro e w37 ⟨zai, zaj, rfl, ho0, ho1, hb⟩
       refine ⟨_, rfl, ?_⟩
       have zf := aM (Kd.R_lower ho0 (below_size (qB1 HB ze)))
       have zg := aM (Kd.R_lower ho1 (below_size (qB1 HB ze)))
       replace za := bK za hb
       replace HB := bS (qB1 HB ze) hb
       (try clear hb)
       (try clear ho0)
       (try clear ho1)
       obtain ⟨zay, zaz, za0⟩ := Kd.R_slice zf.out
       (first | subst za0 | (injection za0 with f1_ f2_ f3_; have f4_ := f1_.symm; have f5_ := f3_.symm; clear f1_ f2_ f3_; subst f4_; subst f5_))
       obtain ⟨z8, z9, zaa⟩ := Kd.R_slice zg.out
       (first | subst zaa | (injection zaa with f1_ f2_ f3_; have f4_ := f1_.symm; have f5_ := f3_.symm; clear f1_ f2_ f3_; subst f4_; subst f5_))
       refine hK.out _ _ ⟨(blk_cell za.out 0).trans rfl, (blk_cell za.out 1).trans rfl, (blk_cell za.out 2).trans rfl, (blk_cell za.out 3).trans rfl, (blk_cell za.out 4).trans rfl, (blk_cell za.out 5).trans rfl, (blk_cell za.out 6).trans rfl, (blk_cell za.out 7).trans rfl, (blk_cell za.out 8).trans rfl, (blk_cell za.out 9).trans rfl, ((HB.out.cell (World.block_lt_of_cell? w _ hw346_0)).trans hw346_0)⟩ (fun hHeld => ?_)
       clear hK K
       refine norm_ (a' := ?_) ?_ ?_
       rotate_left
       ·show Act.put _ (some 82) _ = _
        simp only [Act.put, sP, i64_w, i32_w]
        rfl
       refine two_ (i := 6) (j := 10) (Ni := some 83) (Nj := some 11) (bm 13 127) (bm 13 1087) rfl rfl rfl rfl (two_of HT_.out (by kernel_rfl)) (by decide) (by decide) (fun K hK => ?_) (fun K hK => ?_)
       ·skip
        refine goes_ Try.func26 (by kernel_rfl) rfl #[.int .i64 a0, .agg #[.int .i64 a1_0, .int .i64 a1_1, .int .i64 a1_2, .int .i64 a1_3, .int .i64 a1_4, .int .i64 a1_5, .int .i64 a1_6, .int .i64 a1_7, .bool a1_8, .slice A1_9 l1_9.length c1_9], .agg #[.int .i64 z4, .slice zay zx.length zaz, .slice z8 zy.length z9]] (by rfl) rfl rfl pA ?_
        with_reducible refine (move_View.calls k2 a0 a1_0 a1_1 a1_2 a1_3 a1_4 a1_5 a1_6 a1_7 a1_8 _ _ l1_9 z4 _ _ zx _ _ zy zag zan zao zah _ ?s1 ?s2 ?s3 ?s4 ?s5 ?s6 A35.out).mono ?_
        (case s1 => exact sC z6 HB)
        (case s2 => exact z7.out)
        (case s3 => exact sR zf)
        (case s4 => exact sL zf)
        (case s5 => exact sR zg)
        (case s6 => exact sL zg)
        rintro e w40 ⟨z0, z1, rfl, ho0, ho1, hb⟩
        refine ⟨_, rfl, ?_⟩
        have zv := aM (Kd.R_lower (Kd.R_new' (Kd.R_new' ho0 (Kd.R_lt (pR zf.out))) (Kd.R_lt (pR zg.out))) (below_size (qB1 HB ze)))
        have zw := aM (Kd.R_lower (Kd.R_new' (Kd.R_new' ho1 (Kd.R_lt (pR zf.out))) (Kd.R_lt (pR zg.out))) (below_size (qB1 HB ze)))
        replace zf := eR2 zf ho0 ho1 hb
        replace zg := eR2 zg ho0 ho1 hb
        replace za := bK za hb
        replace HB := bS (qB1 HB ze) hb
        (try clear hb)
        (try clear ho0)
        (try clear ho1)
        refine hK.out _ _ ⟨(blk_cell za.out 0).trans rfl, (blk_cell za.out 1).trans rfl, (blk_cell za.out 2).trans rfl, (blk_cell za.out 3).trans rfl, (blk_cell za.out 4).trans rfl, (blk_cell za.out 5).trans rfl, (blk_cell za.out 6).trans rfl, (blk_cell za.out 7).trans rfl, (blk_cell za.out 8).trans rfl, (blk_cell za.out 9).trans rfl, ((HB.out.cell (World.block_lt_of_cell? w _ hw346_0)).trans hw346_0)⟩ (fun hHeld => ?_)
        clear hK K
        refine norm_ (a' := ?_) ?_ ?_
        rotate_left
        ·show Act.put _ (some 83) _ = _
         simp only [Act.put, sP, i64_w, i32_w]
         rfl
        refine pP (i := 7) (N := some 76) (bm 13 255) rfl rfl HT_.out ?_
        refine pP (i := 8) (N := some 84) (bm 13 511) rfl rfl HT_.out ?_
        refine pP (i := 9) (N := some 85) (bm 13 1023) rfl rfl HT_.out ?_
        refine one_ (i := 10) (N := some 11) (bm 13 2047) rfl rfl (one_of HT_.out (by kernel_rfl)) (by decide) (fun K hK => ?_)
        refine box_step ?hg (N := 11) ?hd (cs := #[.int .i64 0, .slice none 0 0, .slice none 0 0]) (t := 56) ?hr ?_; (case hd => rfl); (case hg => rfl); (case hr => first | (go_simp; done) | (go_simp; rfl))
        intro zd hg w41 hbox hb
        replace zf := bR zf hb
        replace zg := bR zg hb
        replace zv := bR zv hb
        replace zw := bR zw hb
        have zj := aM (hbox)
        have zi := gE (w := w) hg (qB1 HB ze)
        have zk := zi
        replace HB := bS (qB1 HB ze) hb
        have zb := nL hg za
        have zh := nG hg za
        replace za := bK za hb
        clear hb hbox hg
        refine hK.out _ _ ⟨(blk_cell za.out 0).trans rfl, (blk_cell za.out 1).trans rfl, (blk_cell za.out 2).trans rfl, (blk_cell za.out 3).trans rfl, (blk_cell za.out 4).trans rfl, (blk_cell za.out 5).trans rfl, (blk_cell za.out 6).trans rfl, (blk_cell za.out 7).trans rfl, (blk_cell za.out 8).trans rfl, (blk_cell za.out 9).trans rfl, ((HB.out.cell (World.block_lt_of_cell? w _ hw346_0)).trans hw346_0)⟩ (fun hHeld => ?_)
        clear hK K
        refine norm_ (a' := ?_) ?_ ?_
        rotate_left
        ·show Act.put _ (some 11) _ = _
         simp only [Act.put, sP, i64_w, i32_w]
         rfl
        exact norm_ (by simp only [putAll, Act.put, sP]) (hCont (.slice zay zx.length zaz, .slice z8 zy.length z9, z0, z1, zd) _ ⟨hHeld, (by (with_reducible repeat (first | apply rA | apply rN | apply rD)); exact Kd.R_mono zf.out (fun _ hk => ⟨hk.1.1, ⟨hk.1.2, hk.2⟩⟩)), (by (with_reducible repeat (first | apply rA | apply rN | apply rD)); exact Kd.R_mono zg.out (fun _ hk => ⟨hk.1.1, ⟨hk.1.2, hk.2⟩⟩)), (by (with_reducible repeat (first | apply rA | apply rN | apply rD)); exact Kd.R_mono zv.out (fun _ hk => ⟨hk.1.2, ⟨hk.2, hk.1.1⟩⟩)), (by (with_reducible repeat (first | apply rA | apply rN | apply rD)); exact Kd.R_mono zw.out (fun _ hk => ⟨hk.1.2, ⟨hk.2, hk.1.1⟩⟩)), (pK za.out), (pK zj.out), zi.out, zk.out, zb.out, zh.out, (qB2 HB ze zk)⟩)
       ·skip
        refine box_step ?hg (N := 11) ?hd (cs := #[.int .i64 0, .slice none 0 0, .slice none 0 0]) (t := 56) ?hr ?_; (case hd => rfl); (case hg => rfl); (case hr => first | (go_simp; done) | (go_simp; rfl))
        intro zd hg w38 hbox hb
        replace zf := bR zf hb
        replace zg := bR zg hb
        have zj := aM (hbox)
        have zi := gE (w := w) hg (qB1 HB ze)
        have zk := zi
        replace HB := bS (qB1 HB ze) hb
        have zb := nL hg za
        have zh := nG hg za
        replace za := bK za hb
        clear hb hbox hg
        obtain ⟨z8, z9, zaa⟩ := Kd.R_slice zf.out
        (first | subst zaa | (injection zaa with f1_ f2_ f3_; have f4_ := f1_.symm; have f5_ := f3_.symm; clear f1_ f2_ f3_; subst f4_; subst f5_))
        obtain ⟨zap, zaq, zar⟩ := Kd.R_slice zg.out
        (first | subst zar | (injection zar with f1_ f2_ f3_; have f4_ := f1_.symm; have f5_ := f3_.symm; clear f1_ f2_ f3_; subst f4_; subst f5_))
        refine hK.out _ _ ⟨(blk_cell za.out 0).trans rfl, (blk_cell za.out 1).trans rfl, (blk_cell za.out 2).trans rfl, (blk_cell za.out 3).trans rfl, (blk_cell za.out 4).trans rfl, (blk_cell za.out 5).trans rfl, (blk_cell za.out 6).trans rfl, (blk_cell za.out 7).trans rfl, (blk_cell za.out 8).trans rfl, (blk_cell za.out 9).trans rfl, ((HB.out.cell (World.block_lt_of_cell? w _ hw346_0)).trans hw346_0)⟩ (fun hHeld => ?_)
        clear hK K
        refine norm_ (a' := ?_) ?_ ?_
        rotate_left
        ·show Act.put _ (some 11) _ = _
         simp only [Act.put, sP, i64_w, i32_w]
         rfl
        refine one_ (i := 6) (N := some 83) (bm 13 1151) rfl rfl (one_of HT_.out (by kernel_rfl)) (by decide) (fun K hK => ?_)
        refine goes_ Try.func26 (by kernel_rfl) rfl #[.int .i64 a0, .agg #[.int .i64 a1_0, .int .i64 a1_1, .int .i64 a1_2, .int .i64 a1_3, .int .i64 a1_4, .int .i64 a1_5, .int .i64 a1_6, .int .i64 a1_7, .bool a1_8, .slice A1_9 l1_9.length c1_9], .agg #[.int .i64 z4, .slice z8 zx.length z9, .slice zap zy.length zaq]] (by rfl) rfl rfl pA ?_
        with_reducible refine (move_View.calls k2 a0 a1_0 a1_1 a1_2 a1_3 a1_4 a1_5 a1_6 a1_7 a1_8 _ _ l1_9 z4 _ _ zx _ _ zy zag zan zao zah _ ?s1 ?s2 ?s3 ?s4 ?s5 ?s6 A35.out).mono ?_
        (case s1 => exact sC z6 HB)
        (case s2 => exact z7.out)
        (case s3 => exact sR zf)
        (case s4 => exact sL zf)
        (case s5 => exact sR zg)
        (case s6 => exact sL zg)
        rintro e w41 ⟨z0, z1, rfl, ho0, ho1, hb⟩
        refine ⟨_, rfl, ?_⟩
        have zv := aM (Kd.R_lower (Kd.R_new' (Kd.R_new' ho0 (Kd.R_lt (pR zf.out))) (Kd.R_lt (pR zg.out))) (below_size (qB2 HB ze zk)))
        have zw := aM (Kd.R_lower (Kd.R_new' (Kd.R_new' ho1 (Kd.R_lt (pR zf.out))) (Kd.R_lt (pR zg.out))) (below_size (qB2 HB ze zk)))
        replace zf := eR2 zf ho0 ho1 hb
        replace zg := eR2 zg ho0 ho1 hb
        replace za := bK za hb
        replace zj := bK zj hb
        replace HB := bS (qB2 HB ze zk) hb
        (try clear hb)
        (try clear ho0)
        (try clear ho1)
        refine hK.out _ _ ⟨(blk_cell za.out 0).trans rfl, (blk_cell za.out 1).trans rfl, (blk_cell za.out 2).trans rfl, (blk_cell za.out 3).trans rfl, (blk_cell za.out 4).trans rfl, (blk_cell za.out 5).trans rfl, (blk_cell za.out 6).trans rfl, (blk_cell za.out 7).trans rfl, (blk_cell za.out 8).trans rfl, (blk_cell za.out 9).trans rfl, ((HB.out.cell (World.block_lt_of_cell? w _ hw346_0)).trans hw346_0)⟩ (fun hHeld => ?_)
        clear hK K
        refine norm_ (a' := ?_) ?_ ?_
        rotate_left
        ·show Act.put _ (some 83) _ = _
         simp only [Act.put, sP, i64_w, i32_w]
         rfl
        refine pP (i := 7) (N := some 76) (bm 13 1279) rfl rfl HT_.out ?_
        refine pP (i := 8) (N := some 84) (bm 13 1535) rfl rfl HT_.out ?_
        refine pP (i := 9) (N := some 85) (bm 13 2047) rfl rfl HT_.out ?_
        exact norm_ (by simp only [putAll, Act.put, sP]) (hCont (.slice z8 zx.length z9, .slice zap zy.length zaq, z0, z1, zd) _ ⟨hHeld, (by (with_reducible repeat (first | apply rA | apply rN | apply rD)); exact Kd.R_mono zf.out (fun _ hk => ⟨hk.1.1, ⟨hk.1.2, hk.2⟩⟩)), (by (with_reducible repeat (first | apply rA | apply rN | apply rD)); exact Kd.R_mono zg.out (fun _ hk => ⟨hk.1.1, ⟨hk.1.2, hk.2⟩⟩)), (by (with_reducible repeat (first | apply rA | apply rN | apply rD)); exact Kd.R_mono zv.out (fun _ hk => ⟨hk.1.2, ⟨hk.2, hk.1.1⟩⟩)), (by (with_reducible repeat (first | apply rA | apply rN | apply rD)); exact Kd.R_mono zw.out (fun _ hk => ⟨hk.1.2, ⟨hk.2, hk.1.1⟩⟩)), (pK za.out), (pK zj.out), zi.out, zk.out, zb.out, zh.out, (qB2 HB ze zk)⟩)
      ·skip
       refine box_step ?hg (N := 11) ?hd (cs := #[.int .i64 0, .slice none 0 0, .slice none 0 0]) (t := 56) ?hr ?_; (case hd => rfl); (case hg => rfl); (case hr => first | (go_simp; done) | (go_simp; rfl))
       intro zd hg w37 hbox hb
       have zj := aM (hbox)
       have zi := gE (w := w) hg (qB1 HB ze)
       have zk := zi
       replace HB := bS (qB1 HB ze) hb
       have zb := nL hg za
       have zh := nG hg za
       replace za := bK za hb
       clear hb hbox hg
       refine hK.out _ _ ⟨(blk_cell za.out 0).trans rfl, (blk_cell za.out 1).trans rfl, (blk_cell za.out 2).trans rfl, (blk_cell za.out 3).trans rfl, (blk_cell za.out 4).trans rfl, (blk_cell za.out 5).trans rfl, (blk_cell za.out 6).trans rfl, (blk_cell za.out 7).trans rfl, (blk_cell za.out 8).trans rfl, (blk_cell za.out 9).trans rfl, ((HB.out.cell (World.block_lt_of_cell? w _ hw346_0)).trans hw346_0)⟩ (fun hHeld => ?_)
       clear hK K
       refine norm_ (a' := ?_) ?_ ?_
       rotate_left
       ·show Act.put _ (some 11) _ = _
        simp only [Act.put, sP, i64_w, i32_w]
        rfl
       refine one_ (i := 5) (N := some 82) (bm 13 1087) rfl rfl (one_of HT_.out (by kernel_rfl)) (by decide) (fun K hK => ?_)
       refine goes_ Try.func27 (by kernel_rfl) rfl #[.slice A346_0 (rd_L1 l2 0).length c346_0] (by rfl) rfl rfl pA ?_
       with_reducible refine (view_Whole.calls k2 _ _ (rd_L1 l2 0) z4 zx zy _ ?s1 ?s2 A34.out).mono ?_
       (case s1 => exact sC z5 HB)
       (case s2 => exact zaf.out)
       rintro e w38 ⟨zai, zaj, rfl, ho0, ho1, hb⟩
       refine ⟨_, rfl, ?_⟩
       have zf := aM (Kd.R_lower ho0 (below_size (qB2 HB ze zk)))
       have zg := aM (Kd.R_lower ho1 (below_size (qB2 HB ze zk)))
       replace za := bK za hb
       replace zj := bK zj hb
       replace HB := bS (qB2 HB ze zk) hb
       (try clear hb)
       (try clear ho0)
       (try clear ho1)
       obtain ⟨z8, z9, zaa⟩ := Kd.R_slice zf.out
       (first | subst zaa | (injection zaa with f1_ f2_ f3_; have f4_ := f1_.symm; have f5_ := f3_.symm; clear f1_ f2_ f3_; subst f4_; subst f5_))
       obtain ⟨zap, zaq, zar⟩ := Kd.R_slice zg.out
       (first | subst zar | (injection zar with f1_ f2_ f3_; have f4_ := f1_.symm; have f5_ := f3_.symm; clear f1_ f2_ f3_; subst f4_; subst f5_))
       refine hK.out _ _ ⟨(blk_cell za.out 0).trans rfl, (blk_cell za.out 1).trans rfl, (blk_cell za.out 2).trans rfl, (blk_cell za.out 3).trans rfl, (blk_cell za.out 4).trans rfl, (blk_cell za.out 5).trans rfl, (blk_cell za.out 6).trans rfl, (blk_cell za.out 7).trans rfl, (blk_cell za.out 8).trans rfl, (blk_cell za.out 9).trans rfl, ((HB.out.cell (World.block_lt_of_cell? w _ hw346_0)).trans hw346_0)⟩ (fun hHeld => ?_)
       clear hK K
       refine norm_ (a' := ?_) ?_ ?_
       rotate_left
       ·show Act.put _ (some 82) _ = _
        simp only [Act.put, sP, i64_w, i32_w]
        rfl
       refine one_ (i := 6) (N := some 83) (bm 13 1151) rfl rfl (one_of HT_.out (by kernel_rfl)) (by decide) (fun K hK => ?_)
       refine goes_ Try.func26 (by kernel_rfl) rfl #[.int .i64 a0, .agg #[.int .i64 a1_0, .int .i64 a1_1, .int .i64 a1_2, .int .i64 a1_3, .int .i64 a1_4, .int .i64 a1_5, .int .i64 a1_6, .int .i64 a1_7, .bool a1_8, .slice A1_9 l1_9.length c1_9], .agg #[.int .i64 z4, .slice z8 zx.length z9, .slice zap zy.length zaq]] (by rfl) rfl rfl pA ?_
       with_reducible refine (move_View.calls k2 a0 a1_0 a1_1 a1_2 a1_3 a1_4 a1_5 a1_6 a1_7 a1_8 _ _ l1_9 z4 _ _ zx _ _ zy zag zan zao zah _ ?s1 ?s2 ?s3 ?s4 ?s5 ?s6 A35.out).mono ?_
       (case s1 => exact sC z6 HB)
       (case s2 => exact z7.out)
       (case s3 => exact sR zf)
       (case s4 => exact sL zf)
       (case s5 => exact sR zg)
       (case s6 => exact sL zg)
       rintro e w41 ⟨z0, z1, rfl, ho0, ho1, hb⟩
       refine ⟨_, rfl, ?_⟩
       have zv := aM (Kd.R_lower (Kd.R_new' (Kd.R_new' ho0 (Kd.R_lt (pR zf.out))) (Kd.R_lt (pR zg.out))) (below_size (qB2 HB ze zk)))
       have zw := aM (Kd.R_lower (Kd.R_new' (Kd.R_new' ho1 (Kd.R_lt (pR zf.out))) (Kd.R_lt (pR zg.out))) (below_size (qB2 HB ze zk)))
       replace zf := eR2 zf ho0 ho1 hb
       replace zg := eR2 zg ho0 ho1 hb
       replace za := bK za hb
       replace zj := bK zj hb
       replace HB := bS (qB2 HB ze zk) hb
       (try clear hb)
       (try clear ho0)
       (try clear ho1)
       refine hK.out _ _ ⟨(blk_cell za.out 0).trans rfl, (blk_cell za.out 1).trans rfl, (blk_cell za.out 2).trans rfl, (blk_cell za.out 3).trans rfl, (blk_cell za.out 4).trans rfl, (blk_cell za.out 5).trans rfl, (blk_cell za.out 6).trans rfl, (blk_cell za.out 7).trans rfl, (blk_cell za.out 8).trans rfl, (blk_cell za.out 9).trans rfl, ((HB.out.cell (World.block_lt_of_cell? w _ hw346_0)).trans hw346_0)⟩ (fun hHeld => ?_)
       clear hK K
       refine norm_ (a' := ?_) ?_ ?_
       rotate_left
       ·show Act.put _ (some 83) _ = _
        simp only [Act.put, sP, i64_w, i32_w]
        rfl
       refine pP (i := 7) (N := some 76) (bm 13 1279) rfl rfl HT_.out ?_
       refine pP (i := 8) (N := some 84) (bm 13 1535) rfl rfl HT_.out ?_
       refine pP (i := 9) (N := some 85) (bm 13 2047) rfl rfl HT_.out ?_
       exact norm_ (by simp only [putAll, Act.put, sP]) (hCont (.slice z8 zx.length z9, .slice zap zy.length zaq, z0, z1, zd) _ ⟨hHeld, (by (with_reducible repeat (first | apply rA | apply rN | apply rD)); exact Kd.R_mono zf.out (fun _ hk => ⟨hk.1.1, ⟨hk.1.2, hk.2⟩⟩)), (by (with_reducible repeat (first | apply rA | apply rN | apply rD)); exact Kd.R_mono zg.out (fun _ hk => ⟨hk.1.1, ⟨hk.1.2, hk.2⟩⟩)), (by (with_reducible repeat (first | apply rA | apply rN | apply rD)); exact Kd.R_mono zv.out (fun _ hk => ⟨hk.1.2, ⟨hk.2, hk.1.1⟩⟩)), (by (with_reducible repeat (first | apply rA | apply rN | apply rD)); exact Kd.R_mono zw.out (fun _ hk => ⟨hk.1.2, ⟨hk.2, hk.1.1⟩⟩)), (pK za.out), (pK zj.out), zi.out, zk.out, zb.out, zh.out, (qB2 HB ze zk)⟩)
     rintro ⟨zai, zaj, z0, z1, zd⟩ w42 ⟨hS_, h0_, h1_, h2_, h3_, h4_, h5_, h6_, h7_, h8_, h9_, h10_⟩
     have n0_ : Aside0 (Kd.R (Kd.int .i64) 3 w42 w.heap.size (fun k_ => some k_ ≠ (zaj : Value).ownBlock ∧ some k_ ≠ (z0 : Value).ownBlock ∧ some k_ ≠ (z1 : Value).ownBlock) zai zx) := ⟨h0_⟩
     have n1_ : Aside0 (Kd.R (Kd.int .i64) 3 w42 w.heap.size (fun k_ => some k_ ≠ (zai : Value).ownBlock ∧ some k_ ≠ (z0 : Value).ownBlock ∧ some k_ ≠ (z1 : Value).ownBlock) zaj zy) := ⟨h1_⟩
     have n2_ : Aside0 (Kd.R (Kd.int .i64) 3 w42 w.heap.size (fun k_ => some k_ ≠ (zai : Value).ownBlock ∧ some k_ ≠ (zaj : Value).ownBlock ∧ some k_ ≠ (z1 : Value).ownBlock) z0 zan) := ⟨h2_⟩
     have n3_ : Aside0 (Kd.R (Kd.int .i64) 3 w42 w.heap.size (fun k_ => some k_ ≠ (zai : Value).ownBlock ∧ some k_ ≠ (zaj : Value).ownBlock ∧ some k_ ≠ (z0 : Value).ownBlock) z1 zao) := ⟨h3_⟩
     have n4_ : Aside0 (w42.heap[zc]? = some (.cells #[.int .i64 a1_0, .int .i64 a1_1, .int .i64 a1_2, .int .i64 a1_3, .int .i64 a1_4, .int .i64 a1_5, .int .i64 a1_6, .int .i64 a1_7, .bool a1_8, .slice A1_9 l1_9.length c1_9] 24 (0, 0))) := ⟨h4_⟩
     have n5_ : Aside0 (w42.heap[zd]? = some (.cells #[.int .i64 0, .slice none 0 0, .slice none 0 0] 56 (0, 0))) := ⟨h5_⟩
     have n6_ : Aside0 (w.heap.size ≤ zd) := ⟨h6_⟩
     have n7_ : Aside0 (w.heap.size ≤ zd) := ⟨h7_⟩
     have n8_ : Aside0 (zc ≠ zd) := ⟨h8_⟩
     have n9_ : Aside0 (zd ≠ zc) := ⟨h9_⟩
     have n10_ : Aside0 (Below w.heap.size w w42) := ⟨h10_⟩
     clear za
     clear HB
     clear h0_ h1_ h2_ h3_ h4_ h5_ h6_ h7_ h8_ h9_ h10_
     have zf := n0_
     have zg := n1_
     have zv := n2_
     have zw := n3_
     have za := n4_
     have zj := n5_
     have zi := n6_
     have zk := n7_
     have zb := n8_
     have zh := n9_
     have HB := n10_
     clear n0_ n1_ n2_ n3_ n4_ n5_ n6_ n7_ n8_ n9_ n10_
     have hHeld : w42.cell? ⟨zc, 0, none⟩ = some (.int .i64 a1_0) ∧ w42.cell? ⟨zc, 1, none⟩ = some (.int .i64 a1_1) ∧ w42.cell? ⟨zc, 2, none⟩ = some (.int .i64 a1_2) ∧ w42.cell? ⟨zc, 3, none⟩ = some (.int .i64 a1_3) ∧ w42.cell? ⟨zc, 4, none⟩ = some (.int .i64 a1_4) ∧ w42.cell? ⟨zc, 5, none⟩ = some (.int .i64 a1_5) ∧ w42.cell? ⟨zc, 6, none⟩ = some (.int .i64 a1_6) ∧ w42.cell? ⟨zc, 7, none⟩ = some (.int .i64 a1_7) ∧ w42.cell? ⟨zc, 8, none⟩ = some (.bool a1_8) ∧ w42.cell? ⟨zc, 9, none⟩ = some (.slice A1_9 l1_9.length c1_9) ∧ w42.cell? ad346 = some (.slice A346_0 (rd_L1 l2 0).length c346_0) := hS_
     obtain ⟨Ao44, co44, za1⟩ := Kd.R_slice zv.out
     (first | subst za1 | (injection za1 with f1_ f2_ f3_; have f4_ := f1_.symm; have f5_ := f3_.symm; clear f1_ f2_ f3_; subst f4_; subst f5_))
     obtain ⟨Ao46, co46, za2⟩ := Kd.R_slice zw.out
     (first | subst za2 | (injection za2 with f1_ f2_ f3_; have f4_ := f1_.symm; have f5_ := f3_.symm; clear f1_ f2_ f3_; subst f4_; subst f5_))
     refine norm_ (a' := ?_) ?_ ?_
     rotate_left
     ·simp only [putAll, Act.put, sP]
      rfl
     refine one_ (i := 11) (N := none) (bm 13 4095) rfl rfl (one_of HT_.out (by kernel_rfl)) (by decide) (fun K hK => ?_)
     have hs43 : w42.cell? ⟨zd, 0, none⟩ = some (.int .i64 0) := (blk_cell zj.out 0).trans rfl
     have hfs43 := blk_frozen zj.out 0
     have hns43_0 := zb.out
     have hms43_0 := zh.out
     have hs45 : w42.cell? ⟨zd, 1, none⟩ = some (.slice none 0 0) := (blk_cell zj.out 1).trans rfl
     have hfs45 := blk_frozen zj.out 1
     have hns45_0 := zb.out
     have hms45_0 := zh.out
     have hs47 : w42.cell? ⟨zd, 2, none⟩ = some (.slice none 0 0) := (blk_cell zj.out 2).trans rfl
     have hfs47 := blk_frozen zj.out 2
     have hns47_0 := zb.out
     have hms47_0 := zh.out
     refine skip_ (w1 := ?_) (by rfl) rfl ?_ ?_
     rotate_left
     ·go_simp
      rfl
     refine hK.out _ _ ⟨((cell_far (p := ⟨zd, _, none⟩) zb.out _).trans (((cell_far (p := ⟨zd, _, none⟩) zb.out _).trans (((cell_far (p := ⟨zd, _, none⟩) zb.out _).trans (hHeld.1)))))), ((cell_far (p := ⟨zd, _, none⟩) zb.out _).trans (((cell_far (p := ⟨zd, _, none⟩) zb.out _).trans (((cell_far (p := ⟨zd, _, none⟩) zb.out _).trans (hHeld.2.1)))))), ((cell_far (p := ⟨zd, _, none⟩) zb.out _).trans (((cell_far (p := ⟨zd, _, none⟩) zb.out _).trans (((cell_far (p := ⟨zd, _, none⟩) zb.out _).trans (hHeld.2.2.1)))))), ((cell_far (p := ⟨zd, _, none⟩) zb.out _).trans (((cell_far (p := ⟨zd, _, none⟩) zb.out _).trans (((cell_far (p := ⟨zd, _, none⟩) zb.out _).trans (hHeld.2.2.2.1)))))), ((cell_far (p := ⟨zd, _, none⟩) zb.out _).trans (((cell_far (p := ⟨zd, _, none⟩) zb.out _).trans (((cell_far (p := ⟨zd, _, none⟩) zb.out _).trans (hHeld.2.2.2.2.1)))))), ((cell_far (p := ⟨zd, _, none⟩) zb.out _).trans (((cell_far (p := ⟨zd, _, none⟩) zb.out _).trans (((cell_far (p := ⟨zd, _, none⟩) zb.out _).trans (hHeld.2.2.2.2.2.1)))))), ((cell_far (p := ⟨zd, _, none⟩) zb.out _).trans (((cell_far (p := ⟨zd, _, none⟩) zb.out _).trans (((cell_far (p := ⟨zd, _, none⟩) zb.out _).trans (hHeld.2.2.2.2.2.2.1)))))), ((cell_far (p := ⟨zd, _, none⟩) zb.out _).trans (((cell_far (p := ⟨zd, _, none⟩) zb.out _).trans (((cell_far (p := ⟨zd, _, none⟩) zb.out _).trans (hHeld.2.2.2.2.2.2.2.1)))))), ((cell_far (p := ⟨zd, _, none⟩) zb.out _).trans (((cell_far (p := ⟨zd, _, none⟩) zb.out _).trans (((cell_far (p := ⟨zd, _, none⟩) zb.out _).trans (hHeld.2.2.2.2.2.2.2.2.1)))))), ((cell_far (p := ⟨zd, _, none⟩) zb.out _).trans (((cell_far (p := ⟨zd, _, none⟩) zb.out _).trans (((cell_far (p := ⟨zd, _, none⟩) zb.out _).trans (hHeld.2.2.2.2.2.2.2.2.2.1)))))), ((cell_far (p := ⟨zd, _, none⟩) (by first | exact Nat.ne_of_lt (Nat.lt_of_lt_of_le (by have := World.block_lt_of_cell? _ _ hw346_0; first | rwa [add_block] at this | exact this) zi.out) | (rw [add_block]; exact Nat.ne_of_lt (Nat.lt_of_lt_of_le (by have := World.block_lt_of_cell? _ _ hw346_0; first | rwa [add_block] at this | exact this) zi.out)) | (show (Addr.add _ _).block ≠ _; rw [add_block]; exact Nat.ne_of_lt (Nat.lt_of_lt_of_le (by have := World.block_lt_of_cell? _ _ hw346_0; first | rwa [add_block] at this | exact this) zi.out)) | (dsimp only; exact Nat.ne_of_lt (Nat.lt_of_lt_of_le (by have := World.block_lt_of_cell? _ _ hw346_0; first | rwa [add_block] at this | exact this) zi.out))) _).trans (((cell_far (p := ⟨zd, _, none⟩) (by first | exact Nat.ne_of_lt (Nat.lt_of_lt_of_le (by have := World.block_lt_of_cell? _ _ hw346_0; first | rwa [add_block] at this | exact this) zi.out) | (rw [add_block]; exact Nat.ne_of_lt (Nat.lt_of_lt_of_le (by have := World.block_lt_of_cell? _ _ hw346_0; first | rwa [add_block] at this | exact this) zi.out)) | (show (Addr.add _ _).block ≠ _; rw [add_block]; exact Nat.ne_of_lt (Nat.lt_of_lt_of_le (by have := World.block_lt_of_cell? _ _ hw346_0; first | rwa [add_block] at this | exact this) zi.out)) | (dsimp only; exact Nat.ne_of_lt (Nat.lt_of_lt_of_le (by have := World.block_lt_of_cell? _ _ hw346_0; first | rwa [add_block] at this | exact this) zi.out))) _).trans (((cell_far (p := ⟨zd, _, none⟩) (by first | exact Nat.ne_of_lt (Nat.lt_of_lt_of_le (by have := World.block_lt_of_cell? _ _ hw346_0; first | rwa [add_block] at this | exact this) zi.out) | (rw [add_block]; exact Nat.ne_of_lt (Nat.lt_of_lt_of_le (by have := World.block_lt_of_cell? _ _ hw346_0; first | rwa [add_block] at this | exact this) zi.out)) | (show (Addr.add _ _).block ≠ _; rw [add_block]; exact Nat.ne_of_lt (Nat.lt_of_lt_of_le (by have := World.block_lt_of_cell? _ _ hw346_0; first | rwa [add_block] at this | exact this) zi.out)) | (dsimp only; exact Nat.ne_of_lt (Nat.lt_of_lt_of_le (by have := World.block_lt_of_cell? _ _ hw346_0; first | rwa [add_block] at this | exact this) zi.out))) _).trans (hHeld.2.2.2.2.2.2.2.2.2.2))))))⟩ (fun hHeld => ?_)
     clear hK K
     refine pP (i := 12) (N := some 12) (bm 13 8191) rfl rfl HT_.out ?_
     refine done_ (done_of HT_.out (by kernel_rfl)) ?_
     have hnb48 := zh.out
     have hnc48 := zb.out
     obtain ⟨hcz49_0, hcz49_1, hcz49_2, hfz49_0, hfz49_1, hfz49_2⟩ := blk3 zj.out
     try go_wp2
     go_ret2
     exact ⟨_, pE, by (with_reducible repeat (first | apply rA | apply rN | apply rD)); exact F3 zv zj (fun _ hk => trivial), qB2 HB ze zk⟩
end Go.Proofs.Yticcamciaohepaa.Q
