/- Texts of the proof of MoveViews, part 2: what functions of the program compute, and that they compute it. -/
import Derived.Test.YtcdiobcldhiemaaWordsMore
import Derived.Test.YtcdiobcldhiemaaKMoveViews1
namespace Go.Proofs.Ytcdiobcldhiemaa.Q
open Go.RowKit Go.Proofs.YtcdiobcldhiemaaW.PrintWords Go.Proofs.YtcdiobcldhiemaaW.PrintLast Go.Proofs.YtcdiobcldhiemaaW.PrintMore
attribute [local go_sem] max2_int min2_int max_two min_two max_three min_three max_four min_four   -- for this text's walks alone
set_option linter.unusedVariables false
set_option linter.unusedSimpArgs false
mutual
def move_Dims.j0 : Nat → Int → List (List Int) → Bool → Int → Int → Int → Int → Int → Int → Int → Int → Bool → List Int → Option (List Int × Int)
 | 0, _, _, _, _, _, _, _, _, _, _, _, _, _ => none
 | k + 1, x0, x2, x31, zl, zm, zn, zo, zp, zq, zr, zs, zt, zu => if x31 = true then (some (([] : List Int), 1)) else (move_Dims.l0 k x0 x2 x2 (x2.length : Int) 0 zl zm zn zo zp zq zr zs zt zu)
def move_Dims.l0 : Nat → Int → List (List Int) → List (List Int) → Int → Int → Int → Int → Int → Int → Int → Int → Int → Int → Bool → List Int → Option (List Int × Int)
 | 0, _, _, _, _, _, _, _, _, _, _, _, _, _, _, _ => none
 | k + 1, x0, x2, x32, x33, x34, zl, zm, zn, zo, zp, zq, zr, zs, zt, zu => if x34 < x33 then (if 0 ≤ x34 then (if x34 < (x32.length : Int) then ((shape_Check.f (rd_L1 x32 x34)).bind fun zz => (if zz = 0 then (move_Dims.l0 k x0 x2 x32 x33 (wrap64 (x34 + 1)) zl zm zn zo zp zq zr zs zt zu) else (some (([] : List Int), zz)))) else (none)) else (none)) else (if x0 = 38 then (if 0 < (x2.length : Int) then ((move_taken.f k (rd_L1 x2 0) zl zm zn zo zp zq zr zs zt zu).bind fun bt331 => (some (bt331.1, bt331.2))) else (none)) else (if x0 = 39 then (if 0 < (x2.length : Int) then ((move_put.f k (rd_L1 x2 0) zl zm zn zo zp zq zr zs zt zu).bind fun bt336 => (some (bt336.1, bt336.2))) else (none)) else (if x0 = 40 then (if 0 < (x2.length : Int) then (if 1 < (x2.length : Int) then ((move_joined.f k (rd_L1 x2 0) (rd_L1 x2 1) zl).bind fun bt342 => (some (bt342.1, bt342.2))) else (none)) else (none)) else (if 0 < (x2.length : Int) then ((view_Whole.f k (rd_L1 x2 0)).bind fun bt347 => ((move_View.f k x0 zl zm zn zo zp zq zr zs zt zu bt347.1 bt347.2.1 bt347.2.2).bind fun bt354 => (some (bt354.2.1, bt354.2.2.2)))) else (none)))))
end
def move_Dims.f (k : Nat) (a0 : Int) (a1_0 : Int) (a1_1 : Int) (a1_2 : Int) (a1_3 : Int) (a1_4 : Int) (a1_5 : Int) (a1_6 : Int) (a1_7 : Int) (a1_8 : Bool) (l1_9 : List Int) (l2 : List (List Int)) : Option (List Int × Int) := (move_Is.f a0).bind fun zak => (if zak = true then (if (l2.length : Int) = 1 then (if a0 = 40 then (move_Dims.j0 k a0 l2 ((l2.length : Int) != 2) a1_0 a1_1 a1_2 a1_3 a1_4 a1_5 a1_6 a1_7 a1_8 l1_9) else (move_Dims.j0 k a0 l2 false a1_0 a1_1 a1_2 a1_3 a1_4 a1_5 a1_6 a1_7 a1_8 l1_9)) else (if a0 = 40 then (move_Dims.j0 k a0 l2 ((l2.length : Int) != 2) a1_0 a1_1 a1_2 a1_3 a1_4 a1_5 a1_6 a1_7 a1_8 l1_9) else (move_Dims.j0 k a0 l2 true a1_0 a1_1 a1_2 a1_3 a1_4 a1_5 a1_6 a1_7 a1_8 l1_9))) else (some (([] : List Int), 14)))
def move_Dims.T14 : Bool × List (List Nat × List Nat) := (true, [([], []), ([0], [0]), ([1], [1]), ([], []), ([2, 3], [2, 3]), ([4], [4]), ([4], [4]), ([5, 4, 0, 1, 2, 3, 4, 5, 6], [5]), ([6, 7, 0, 1, 2, 3, 4, 5, 6, 7], [6])])
def move_Dims.B14 : List Nat := [0, 1, 3, 0, 15, 31, 31, 127, 255]
theorem move_Dims.tab14 : rtab .any (opsOf Try.f10 14) = move_Dims.T14 := by kernel_rfl
theorem move_Dims.bits14 : waitsOk move_Dims.T14.2 move_Dims.B14 = true := by kernel_rfl
def move_Dims.T16 : Bool × List (List Nat × List Nat) := (true, [([], []), ([0], [0]), ([1], [1]), ([], []), ([2, 3], [2, 3]), ([4], [4]), ([4], [4]), ([5, 4, 0, 1, 2, 3, 4, 5, 6], [5]), ([6, 7, 0, 1, 2, 3, 4, 5, 6, 7], [6])])
def move_Dims.B16 : List Nat := [0, 1, 3, 0, 15, 31, 31, 127, 255]
theorem move_Dims.tab16 : rtab .any (opsOf Try.f10 16) = move_Dims.T16 := by kernel_rfl
theorem move_Dims.bits16 : waitsOk move_Dims.T16.2 move_Dims.B16 = true := by kernel_rfl
def move_Dims.T18 : Bool × List (List Nat × List Nat) := (true, [([], []), ([0], [0]), ([1], [1]), ([], []), ([3], [3]), ([4], [4]), ([], []), ([6], [6]), ([2, 5, 7], [2, 5, 7]), ([8], [8]), ([8], [8]), ([9, 8, 0, 1, 2, 3, 4, 5, 6, 7, 8, 9, 10], [9]), ([10, 11, 0, 1, 2, 3, 4, 5, 6, 7, 8, 9, 10, 11], [10])])
def move_Dims.B18 : List Nat := [0, 1, 3, 0, 8, 24, 0, 64, 255, 511, 511, 2047, 4095]
theorem move_Dims.tab18 : rtab .any (opsOf Try.f10 18) = move_Dims.T18 := by kernel_rfl
theorem move_Dims.bits18 : waitsOk move_Dims.T18.2 move_Dims.B18 = true := by kernel_rfl
def move_Dims.T19 : Bool × List (List Nat × List Nat) := (true, [([], []), ([], []), ([], []), ([2], [2]), ([3], [3]), ([4], [4]), ([0, 1, 5, 5], [0, 1, 5]), ([6], [6]), ([7], [7]), ([7], [7]), ([], []), ([10, 8, 6, 0, 1, 2, 3, 4, 5, 6, 7, 8, 10], [8, 10]), ([9, 11, 0, 1, 2, 3, 4, 5, 6, 7, 8, 9, 10, 11], [9])])
def move_Dims.B19 : List Nat := [0, 0, 0, 4, 12, 28, 63, 127, 255, 255, 0, 1535, 4095]
theorem move_Dims.tab19 : rtab .any (opsOf Try.f10 19) = move_Dims.T19 := by kernel_rfl
theorem move_Dims.bits19 : waitsOk move_Dims.T19.2 move_Dims.B19 = true := by kernel_rfl
set_option maxHeartbeats 8000000 in
set_option maxRecDepth 100000 in
theorem move_Dims.calls (k : Nat) (a0 : Int) (a1_0 : Int) (a1_1 : Int) (a1_2 : Int) (a1_3 : Int) (a1_4 : Int) (a1_5 : Int) (a1_6 : Int) (a1_7 : Int) (a1_8 : Bool) (A1_9 : Option Addr) (c1_9 : Nat) (l1_9 : List Int) (A2 : Option Addr) (c2 : Nat) (l2 : List (List Int)) (r1 : List Int) (r2 : Int) (w : World) (hr1_9 : Kd.C (Kd.int .i64) w A1_9 l1_9.length l1_9) (hc1_9 : l1_9.length ≤ c1_9) (hr2 : Kd.C (Kd.slice 3 (Kd.int .i64)) w A2 l2.length l2) (hc2 : l2.length ≤ c2) (h : move_Dims.f k a0 a1_0 a1_1 a1_2 a1_3 a1_4 a1_5 a1_6 a1_7 a1_8 l1_9 l2 = some (r1, r2)) :
  Calls Try.prog 10 #[.int .i64 a0, .agg #[.int .i64 a1_0, .int .i64 a1_1, .int .i64 a1_2, .int .i64 a1_3, .int .i64 a1_4, .int .i64 a1_5, .int .i64 a1_6, .int .i64 a1_7, .bool a1_8, .slice A1_9 l1_9.length c1_9], .slice A2 l2.length c2] w fun e w' => ∃ v0_ : Value, e = .returned (.tuple #[v0_, .int .i64 r2]) ∧ Kd.R (Kd.int .i64) 3 w' w.heap.size (fun _ => True) v0_ r1 ∧ Below w.heap.size w w' := by
 have hu24 := Try.underlying24
 have hu44 := Try.underlying44
 have z6 := aM hr1_9
 have z7 := aM hc1_9
 clear hr1_9 hc1_9
 have HR2 := aM hr2
 have HC2 := aM hc2
 clear hr2 hc2
 have HB := aM (Below.refl w.heap.size w)
 have H : ((move_Is.f a0).bind fun zak => (if zak = true then (if (l2.length : Int) = 1 then (if a0 = 40 then (move_Dims.j0 k a0 l2 ((l2.length : Int) != 2) a1_0 a1_1 a1_2 a1_3 a1_4 a1_5 a1_6 a1_7 a1_8 l1_9) else (move_Dims.j0 k a0 l2 false a1_0 a1_1 a1_2 a1_3 a1_4 a1_5 a1_6 a1_7 a1_8 l1_9)) else (if a0 = 40 then (move_Dims.j0 k a0 l2 ((l2.length : Int) != 2) a1_0 a1_1 a1_2 a1_3 a1_4 a1_5 a1_6 a1_7 a1_8 l1_9) else (move_Dims.j0 k a0 l2 true a1_0 a1_1 a1_2 a1_3 a1_4 a1_5 a1_6 a1_7 a1_8 l1_9))) else (some (([] : List Int), 14)))) = some (r1, r2) := h
 clear h
 replace H := Option.bind_eq_some_iff.mp H
 obtain ⟨zak, A40, H⟩ := H
 try dsimp only at H
 have A4 := aM A40
 clear A40
 by_cases c5 : zak = true
 rotate_left
 ·replace c5 := Bool.eq_false_iff.mpr c5
  subst c5
  rw [if_neg (show ¬ (false = true) by decide)] at H
  simp only [Option.some.injEq, Prod.mk.injEq] at H
  obtain ⟨rfl, rfl⟩ := H
  go_enter Try.func10, Try.ntmps10
  go_wp2_with (first | ((with_reducible refine gate_dst (N := 4) rfl ?_); (try (refine gate_guard (by rfl) ?_; dsimp only)); refine box_event ?hg (N := 4) ?hd (cs := #[.int .i64 a1_0, .int .i64 a1_1, .int .i64 a1_2, .int .i64 a1_3, .int .i64 a1_4, .int .i64 a1_5, .int .i64 a1_6, .int .i64 a1_7, .bool a1_8, .slice A1_9 l1_9.length c1_9]) (t := 24) ?hr ?_; (case hd => rfl); (case hg => rfl); (case hr => first | (go_simp; done) | (go_simp; rfl)); intro zc hg w50 hbox hb; have za := aM (hbox); have zal := gE (w := w) hg (qB HB); have ze := zal; replace HB := bS (qB HB) hb; clear hb hbox hg) | ((with_reducible refine gate_callee (f := 13) rfl ?_); refine goesL_ (some 14) rfl rfl Try.func13 (by kernel_rfl) rfl #[.int .i64 a0] rfl pA ?_; (with_reducible refine (move_Is.calls a0 false _ A4.out).mono ?_); rintro e w' ⟨rfl, ⟨nd, rfl⟩⟩; refine ⟨_, rfl, ?_⟩))
  go_ret2
  exact ⟨_, pE, pN, qB1 HB ze⟩
 subst c5
 rw [if_pos rfl] at H
 have HC6 := aM H
 clear H
 go_enter Try.func10, Try.ntmps10
 go_upto_region 3 with (first | ((with_reducible refine gate_dst (N := 4) rfl ?_); (try (refine gate_guard (by rfl) ?_; dsimp only)); refine box_event ?hg (N := 4) ?hd (cs := #[.int .i64 a1_0, .int .i64 a1_1, .int .i64 a1_2, .int .i64 a1_3, .int .i64 a1_4, .int .i64 a1_5, .int .i64 a1_6, .int .i64 a1_7, .bool a1_8, .slice A1_9 l1_9.length c1_9]) (t := 24) ?hr ?_; (case hd => rfl); (case hg => rfl); (case hr => first | (go_simp; done) | (go_simp; rfl)); intro zc hg w7 hbox hb; have za := aM (hbox); have zal := gE (w := w) hg (qB HB); have ze := zal; replace HB := bS (qB HB) hb; clear hb hbox hg) | ((with_reducible refine gate_callee (f := 13) rfl ?_); refine goesL_ (some 14) rfl rfl Try.func13 (by kernel_rfl) rfl #[.int .i64 a0] rfl pA ?_; (with_reducible refine (move_Is.calls a0 true _ A4.out).mono ?_); rintro e w' ⟨rfl, ⟨nd, rfl⟩⟩; refine ⟨_, rfl, ?_⟩))
 (try simp only [Act.put, sP])
 go_cut [31] (fun v31 wc => ∃ (kq : Nat) (x31_5 : Bool), v31 = .bool x31_5 ∧ Aside0 (move_Dims.j0 kq a0 l2 x31_5 a1_0 a1_1 a1_2 a1_3 a1_4 a1_5 a1_6 a1_7 a1_8 l1_9 = some (r1, r2)) ∧ Aside0 (kq ≤ k) ∧ Aside0 (wc.heap[zc]? = some (.cells #[.int .i64 a1_0, .int .i64 a1_1, .int .i64 a1_2, .int .i64 a1_3, .int .i64 a1_4, .int .i64 a1_5, .int .i64 a1_6, .int .i64 a1_7, .bool a1_8, (.slice A1_9 l1_9.length c1_9)] 24 (0, 0))) ∧ Aside0 (Below w.heap.size w wc))
 case first =>
  have H := HC6.out
  clear HC6
  by_cases c8 : (l2.length : Int) = 1
  rotate_left
  ·rw [if_neg c8] at H
   have zam : ((l2.length : Int) == 1) = false := beq_eq_false_iff_ne.mpr c8
   have c8b1 : ((l2.length : Int) != 1) = true := bne_iff_ne.mpr c8
   (first | rw [zam] | (simp only [i64_w, i32_w]; rw [zam]) | skip)
   by_cases c10 : a0 = 40
   rotate_left
   ·rw [if_neg c10] at H
    have c10b0 : (a0 == 40) = false := beq_eq_false_iff_ne.mpr c10
    have c10b1 : (a0 != 40) = true := bne_iff_ne.mpr c10
    have H' := aM H
    clear H
    go_wp2
    go_meet
    case rel => exact ⟨_, (true), (pF), H', ⟨by first | omega | exact Nat.le_refl _⟩, ⟨pK za.out⟩, ⟨qB1 HB ze⟩⟩
   rw [if_pos c10] at H
   have c10b0 : (a0 == 40) = true := beq_iff_eq.mpr c10
   have c10b1 : (a0 != 40) = false := bne_eq_false_iff_eq.mpr c10
   clear c10
   have H' := aM H
   clear H
   go_wp2
   go_meet
   case rel => exact ⟨_, (((l2.length : Int) != 2)), (pF), H', ⟨by first | omega | exact Nat.le_refl _⟩, ⟨pK za.out⟩, ⟨qB1 HB ze⟩⟩
  rw [if_pos c8] at H
  have zam : ((l2.length : Int) == 1) = true := beq_iff_eq.mpr c8
  have c8b1 : ((l2.length : Int) != 1) = false := bne_eq_false_iff_eq.mpr c8
  clear c8
  (first | rw [zam] | (simp only [i64_w, i32_w]; rw [zam]) | skip)
  by_cases c9 : a0 = 40
  rotate_left
  ·rw [if_neg c9] at H
   have c9b0 : (a0 == 40) = false := beq_eq_false_iff_ne.mpr c9
   have c9b1 : (a0 != 40) = true := bne_iff_ne.mpr c9
   have H' := aM H
   clear H
   go_wp2
   go_meet
   case rel => exact ⟨_, (false), (pF), H', ⟨by first | omega | exact Nat.le_refl _⟩, ⟨pK za.out⟩, ⟨qB1 HB ze⟩⟩
  rw [if_pos c9] at H
  have c9b0 : (a0 == 40) = true := beq_iff_eq.mpr c9
  have c9b1 : (a0 != 40) = false := bne_eq_false_iff_eq.mpr c9
  clear c9
  have H' := aM H
  clear H
  go_wp2
  go_meet
  case rel => exact ⟨_, (((l2.length : Int) != 2)), (pF), H', ⟨by first | omega | exact Nat.le_refl _⟩, ⟨pK za.out⟩, ⟨qB1 HB ze⟩⟩
 case rest =>
  clear HC6
  try clear c2
  try clear c5
  obtain ⟨kq, x31_5, rfl, HA, HJ5, za, HB⟩ := hcut
  cases kq with
  | zero => exact absurd HA.out (by simp [move_Dims.j0])
  | succ kj5 =>
   have H := HA.out
   clear HA
   simp only [move_Dims.j0] at H
   by_cases c11 : x31_5 = true
   ·subst c11
    rw [if_pos rfl] at H
    simp only [Option.some.injEq, Prod.mk.injEq] at H
    obtain ⟨rfl, rfl⟩ := H
    go_wp2
    go_ret2
    exact ⟨_, pE, pN, qB1 HB ze⟩
   replace c11 := Bool.eq_false_iff.mpr c11
   subst c11
   rw [if_neg (show ¬ (false = true) by decide)] at H
   have H' := aM H
   clear H
   go_wp2
   go_loopg [34] kj5 (fun kq v34 w' => ∃ (x34_2 : Int), v34 = .int .i64 x34_2 ∧ Aside0 (move_Dims.l0 kq a0 l2 l2 (l2.length : Int) x34_2 a1_0 a1_1 a1_2 a1_3 a1_4 a1_5 a1_6 a1_7 a1_8 l1_9 = some (r1, r2)) ∧ Aside0 (kq ≤ kj5) ∧ Aside0 (w'.heap[zc]? = some (.cells #[.int .i64 a1_0, .int .i64 a1_1, .int .i64 a1_2, .int .i64 a1_3, .int .i64 a1_4, .int .i64 a1_5, .int .i64 a1_6, .int .i64 a1_7, .bool a1_8, (.slice A1_9 l1_9.length c1_9)] 24 (0, 0))) ∧ Aside0 (Below w.heap.size w w'))
   case atStart => exact ⟨(0), (pF), H', ⟨Nat.le_refl _⟩, ⟨pK za.out⟩, ⟨qB1 HB ze⟩⟩
   case round =>
    clear H'
    try clear c11
    obtain ⟨x34_2, rfl, HA, HK2, za, HB⟩ := hrel
    cases gk with
    | zero => exact absurd HA.out (by simp [move_Dims.l0])
    | succ k2 =>
     have H := HA.out
     clear HA
     simp only [move_Dims.l0] at H
     by_cases c12 : x34_2 < (l2.length : Int)
     ·rw [if_pos c12] at H
      have c12b0 : decide (x34_2 < (l2.length : Int)) = true := decide_eq_true c12
      clear c12
      by_cases c13 : 0 ≤ x34_2
      rotate_left
      ·rw [if_neg c13] at H
       exact absurd H (by simp)
      rw [if_pos c13] at H
      have c13b0 : decide (0 ≤ x34_2) = true := decide_eq_true c13
      clear c13
      by_cases c14 : x34_2 < (l2.length : Int)
      rotate_left
      ·rw [if_neg c14] at H
       exact absurd H (by simp)
      rw [if_pos c14] at H
      have c14b0 : decide (x34_2 < (l2.length : Int)) = true := decide_eq_true c14
      clear c14
      replace H := Option.bind_eq_some_iff.mp H
      obtain ⟨zz, zas, H⟩ := H
      try dsimp only at H
      have A15 := aM zas
      clear zas
      by_cases c16 : zz = 0
      rotate_left
      ·rw [if_neg c16] at H
       have c16b0 : (zz == 0) = false := beq_eq_false_iff_ne.mpr c16
       have c16b1 : (zz != 0) = true := bne_iff_ne.mpr c16
       simp only [Option.some.injEq, Prod.mk.injEq] at H
       obtain ⟨rfl, rfl⟩ := H
       have p328 : 0 ≤ (x34_2 : Int) := of_decide_eq_true pD
       have q328 : x34_2 < (l2.length : Int) := of_decide_eq_true pD
       obtain ⟨ad328, A328_0, c328_0, e328, hx328_0, hl328_0, hi328_0⟩ := at_L1 HR2.out x34_2 p328 q328
       cases e328
       replace hx328_0 := (HB.out.cell (World.block_lt_of_cell? w _ hx328_0)).trans hx328_0
       have z2 := aM hi328_0
       have z3 := aM hl328_0
       clear hi328_0 hl328_0
       replace p328 := eq_true p328
       replace q328 := eq_true q328
       go_wp2_with (first | ((with_reducible refine gate_callee (f := 31) rfl ?_); refine goesL_ (some 39) rfl rfl Try.func31 (by kernel_rfl) rfl #[.slice A328_0 (rd_L1 l2 x34_2).length c328_0] rfl pA ?_; (with_reducible refine (shape_Check.calls _ _ (rd_L1 l2 x34_2) zz _ ?s1 ?s2 A15.out).mono ?_); (case s1 => exact sC z2 HB); (case s2 => exact z3.out); rintro e w' ⟨rfl, ⟨nd, rfl⟩⟩; refine ⟨_, rfl, ?_⟩))
       go_ret2
       exact ⟨_, pE, pN, qB1 HB ze⟩
      rw [if_pos c16] at H
      have c16b0 : (zz == 0) = true := beq_iff_eq.mpr c16
      have c16b1 : (zz != 0) = false := bne_eq_false_iff_eq.mpr c16
      clear c16
      have H' := aM H
      clear H
      have p328 : 0 ≤ (x34_2 : Int) := of_decide_eq_true pD
      have q328 : x34_2 < (l2.length : Int) := of_decide_eq_true pD
      obtain ⟨ad328, A328_0, c328_0, e328, hx328_0, hl328_0, hi328_0⟩ := at_L1 HR2.out x34_2 p328 q328
      cases e328
      replace hx328_0 := (HB.out.cell (World.block_lt_of_cell? w _ hx328_0)).trans hx328_0
      have z2 := aM hi328_0
      have z3 := aM hl328_0
      clear hi328_0 hl328_0
      replace p328 := eq_true p328
      replace q328 := eq_true q328
      go_wp2_with (first | ((with_reducible refine gate_callee (f := 31) rfl ?_); refine goesL_ (some 39) rfl rfl Try.func31 (by kernel_rfl) rfl #[.slice A328_0 (rd_L1 l2 x34_2).length c328_0] rfl pA ?_; (with_reducible refine (shape_Check.calls _ _ (rd_L1 l2 x34_2) zz _ ?s1 ?s2 A15.out).mono ?_); (case s1 => exact sC z2 HB); (case s2 => exact z3.out); rintro e w' ⟨rfl, ⟨nd, rfl⟩⟩; refine ⟨_, rfl, ?_⟩))
      go_roundg k2
      case measure => have := HJ5.out; have := HK2.out; omega
      case rel => exact ⟨(wrap64 (x34_2 + 1)), (pF), H', ⟨by have := HJ5.out; have := HK2.out; omega⟩, ⟨pK za.out⟩, ⟨qB1 HB ze⟩⟩
     rw [if_neg c12] at H
     have c12b0 : decide (x34_2 < (l2.length : Int)) = false := decide_eq_false c12
     clear c12
     by_cases c17 : a0 = 38
     ·rw [if_pos c17] at H
      have c17b0 : (a0 == 38) = true := beq_iff_eq.mpr c17
      have c17b1 : (a0 != 38) = false := bne_eq_false_iff_eq.mpr c17
      clear c17
      by_cases c18 : 0 < (l2.length : Int)
      rotate_left
      ·rw [if_neg c18] at H
       exact absurd H (by simp)
      rw [if_pos c18] at H
      have c18b0 : decide (0 < (l2.length : Int)) = true := decide_eq_true c18
      have c18b1 : decide (0 < l2.length) = true := decide_eq_true (by omega)
      clear c18
      replace H := Option.bind_eq_some_iff.mp H
      obtain ⟨⟨t331, t334⟩, zat, H⟩ := H
      try dsimp only at H
      have A19 := aM zat
      clear zat
      simp only [Option.some.injEq, Prod.mk.injEq] at H
      obtain ⟨rfl, rfl⟩ := H
      try go_wp2
      replace za := aM (blk_drew za.out)
      replace HB := aM (below_drew1 HB.out)
      have p330 : 0 ≤ (0 : Int) := (by omega)
      have q330 : 0 < (l2.length : Int) := of_decide_eq_true pD
      obtain ⟨ad330, A330_0, c330_0, e330, hx330_0, hl330_0, hi330_0⟩ := at_L1 HR2.out 0 p330 q330
      have hw330_0 := hx330_0
      (try rw [show ((0 : Int)).toNat = 0 from rfl] at hw330_0)
      (try rw [show 0 * 1 = 0 from rfl] at hw330_0)
      (try rw [Addr.add_zero'] at hw330_0)
      cases e330
      have qi330 : (0 < l2.length) = True := eq_true (by omega)
      (try rw [show ((0 : Int)).toNat = 0 from rfl] at hx330_0)
      (try rw [Addr.add_zero'] at hx330_0)
      replace hx330_0 := (HB.out.cell (World.block_lt_of_cell? w _ hx330_0)).trans hx330_0
      have zab := aM hi330_0
      have HC330_0 := aM hl330_0
      clear hi330_0 hl330_0
      replace p330 := eq_true p330
      replace q330 := eq_true q330
      refine start_ (n := 9) (S := fun w' => w'.cell? ⟨zc, 0, none⟩ = some (.int .i64 a1_0) ∧ w'.cell? ⟨zc, 1, none⟩ = some (.int .i64 a1_1) ∧ w'.cell? ⟨zc, 2, none⟩ = some (.int .i64 a1_2) ∧ w'.cell? ⟨zc, 3, none⟩ = some (.int .i64 a1_3) ∧ w'.cell? ⟨zc, 4, none⟩ = some (.int .i64 a1_4) ∧ w'.cell? ⟨zc, 5, none⟩ = some (.int .i64 a1_5) ∧ w'.cell? ⟨zc, 6, none⟩ = some (.int .i64 a1_6) ∧ w'.cell? ⟨zc, 7, none⟩ = some (.int .i64 a1_7) ∧ w'.cell? ⟨zc, 8, none⟩ = some (.bool a1_8) ∧ w'.cell? ⟨zc, 9, none⟩ = some (.slice A1_9 l1_9.length c1_9) ∧ w'.cell? ad330 = some (.slice A330_0 (rd_L1 l2 0).length c330_0)) (ds := []) (bm 9 0) (by kernel_rfl) rfl rfl ⟨(blk_cell za.out 0).trans rfl, (blk_cell za.out 1).trans rfl, (blk_cell za.out 2).trans rfl, (blk_cell za.out 3).trans rfl, (blk_cell za.out 4).trans rfl, (blk_cell za.out 5).trans rfl, (blk_cell za.out 6).trans rfl, (blk_cell za.out 7).trans rfl, (blk_cell za.out 8).trans rfl, (blk_cell za.out 9).trans rfl, ((HB.out.cell (World.block_lt_of_cell? w _ hw330_0)).trans hw330_0)⟩ (fun hHeld => ?_); refine with_tabW move_Dims.tab14 move_Dims.bits14 (fun HT_ HW_ => ?_)
      generalize wr.drew = w20 at za HB zab hx330_0 hHeld ⊢
      refine pP (i := 0) (N := some 47) (bm 9 1) rfl rfl HT_.out ?_
      refine pP (i := 1) (N := some 48) (bm 9 3) rfl rfl HT_.out ?_
      refine pT (i := 2) (N := some 49) (bm 9 7) rfl rfl HT_.out HW_.out hHeld (by rintro w' ⟨s0, s1, s2, s3, s4, s5, s6, s7, s8, s9, s10⟩; go_simp; with_reducible rfl) ?_
      refine pT (i := 3) (N := some 50) (bm 9 15) rfl rfl HT_.out HW_.out hHeld (by rintro w' ⟨s0, s1, s2, s3, s4, s5, s6, s7, s8, s9, s10⟩; go_simp; with_reducible rfl) ?_
      refine one_ (i := 4) (N := some 51) (bm 9 31) rfl rfl (one_of HT_.out (by kernel_rfl)) (by decide) (fun K hK => ?_)
      refine goes_ Try.func32 (by kernel_rfl) rfl #[.slice A330_0 (rd_L1 l2 0).length c330_0, .agg #[.int .i64 a1_0, .int .i64 a1_1, .int .i64 a1_2, .int .i64 a1_3, .int .i64 a1_4, .int .i64 a1_5, .int .i64 a1_6, .int .i64 a1_7, .bool a1_8, .slice A1_9 l1_9.length c1_9]] (by rfl) rfl rfl pA ?_
      with_reducible refine (move_taken.calls k2 _ _ (rd_L1 l2 0) a1_0 a1_1 a1_2 a1_3 a1_4 a1_5 a1_6 a1_7 a1_8 _ _ l1_9 t331 t334 _ ?s1 ?s2 ?s3 ?s4 A19.out).mono ?_
      (case s1 => exact sC zab HB)
      (case s2 => exact HC330_0.out)
      (case s3 => exact sC z6 HB)
      (case s4 => exact z7.out)
      rintro e w21 ⟨v332, rfl, ho0, hb⟩
      refine ⟨_, rfl, ?_⟩
      have HO333 := aM (Kd.R_lower ho0 (below_size (qB1 HB ze)))
      replace za := bK za hb
      replace HB := bS (qB1 HB ze) hb
      (try clear hb)
      (try clear ho0)
      refine hK.out _ _ ⟨(blk_cell za.out 0).trans rfl, (blk_cell za.out 1).trans rfl, (blk_cell za.out 2).trans rfl, (blk_cell za.out 3).trans rfl, (blk_cell za.out 4).trans rfl, (blk_cell za.out 5).trans rfl, (blk_cell za.out 6).trans rfl, (blk_cell za.out 7).trans rfl, (blk_cell za.out 8).trans rfl, (blk_cell za.out 9).trans rfl, ((HB.out.cell (World.block_lt_of_cell? w _ hw330_0)).trans hw330_0)⟩ (fun hHeld => ?_)
      clear hK K
      refine norm_ (a' := ?_) ?_ ?_
      rotate_left
      ·show Act.put _ (some 51) _ = _
       simp only [Act.put, sP, i64_w, i32_w]
       rfl
      refine pP (i := 5) (N := some 52) (bm 9 63) rfl rfl HT_.out ?_
      refine pP (i := 6) (N := some 53) (bm 9 127) rfl rfl HT_.out ?_
      refine pP (i := 7) (N := some 6) (bm 9 255) rfl rfl HT_.out ?_
      refine pP (i := 8) (N := some 7) (bm 9 511) rfl rfl HT_.out ?_
      refine done_ (done_of HT_.out (by kernel_rfl)) ?_
      try go_wp2
      go_ret2
      exact ⟨_, pE, pR HO333.out, qB1 HB ze⟩
     rw [if_neg c17] at H
     have c17b0 : (a0 == 38) = false := beq_eq_false_iff_ne.mpr c17
     have c17b1 : (a0 != 38) = true := bne_iff_ne.mpr c17
     by_cases c22 : a0 = 39
     ·rw [if_pos c22] at H
      have c22b0 : (a0 == 39) = true := beq_iff_eq.mpr c22
      have c22b1 : (a0 != 39) = false := bne_eq_false_iff_eq.mpr c22
      clear c22
      by_cases c23 : 0 < (l2.length : Int)
      rotate_left
      ·rw [if_neg c23] at H
       exact absurd H (by simp)
      rw [if_pos c23] at H
      have c23b0 : decide (0 < (l2.length : Int)) = true := decide_eq_true c23
      have c23b1 : decide (0 < l2.length) = true := decide_eq_true (by omega)
      clear c23
      replace H := Option.bind_eq_some_iff.mp H
      obtain ⟨⟨t336, t339⟩, zau, H⟩ := H
      try dsimp only at H
      have A24 := aM zau
      clear zau
      simp only [Option.some.injEq, Prod.mk.injEq] at H
      obtain ⟨rfl, rfl⟩ := H
      try go_wp2
      replace za := aM (blk_drew za.out)
      replace HB := aM (below_drew1 HB.out)
      have p335 : 0 ≤ (0 : Int) := (by omega)
      have q335 : 0 < (l2.length : Int) := of_decide_eq_true pD
      obtain ⟨ad335, A335_0, c335_0, e335, hx335_0, hl335_0, hi335_0⟩ := at_L1 HR2.out 0 p335 q335
      have hw335_0 := hx335_0
      (try rw [show ((0 : Int)).toNat = 0 from rfl] at hw335_0)
      (try rw [show 0 * 1 = 0 from rfl] at hw335_0)
      (try rw [Addr.add_zero'] at hw335_0)
      cases e335
      have qi335 : (0 < l2.length) = True := eq_true (by omega)
      (try rw [show ((0 : Int)).toNat = 0 from rfl] at hx335_0)
      (try rw [Addr.add_zero'] at hx335_0)
      replace hx335_0 := (HB.out.cell (World.block_lt_of_cell? w _ hx335_0)).trans hx335_0
      have zac := aM hi335_0
      have HC335_0 := aM hl335_0
      clear hi335_0 hl335_0
      replace p335 := eq_true p335
      replace q335 := eq_true q335
      refine start_ (n := 9) (S := fun w' => w'.cell? ⟨zc, 0, none⟩ = some (.int .i64 a1_0) ∧ w'.cell? ⟨zc, 1, none⟩ = some (.int .i64 a1_1) ∧ w'.cell? ⟨zc, 2, none⟩ = some (.int .i64 a1_2) ∧ w'.cell? ⟨zc, 3, none⟩ = some (.int .i64 a1_3) ∧ w'.cell? ⟨zc, 4, none⟩ = some (.int .i64 a1_4) ∧ w'.cell? ⟨zc, 5, none⟩ = some (.int .i64 a1_5) ∧ w'.cell? ⟨zc, 6, none⟩ = some (.int .i64 a1_6) ∧ w'.cell? ⟨zc, 7, none⟩ = some (.int .i64 a1_7) ∧ w'.cell? ⟨zc, 8, none⟩ = some (.bool a1_8) ∧ w'.cell? ⟨zc, 9, none⟩ = some (.slice A1_9 l1_9.length c1_9) ∧ w'.cell? ad335 = some (.slice A335_0 (rd_L1 l2 0).length c335_0)) (ds := []) (bm 9 0) (by kernel_rfl) rfl rfl ⟨(blk_cell za.out 0).trans rfl, (blk_cell za.out 1).trans rfl, (blk_cell za.out 2).trans rfl, (blk_cell za.out 3).trans rfl, (blk_cell za.out 4).trans rfl, (blk_cell za.out 5).trans rfl, (blk_cell za.out 6).trans rfl, (blk_cell za.out 7).trans rfl, (blk_cell za.out 8).trans rfl, (blk_cell za.out 9).trans rfl, ((HB.out.cell (World.block_lt_of_cell? w _ hw335_0)).trans hw335_0)⟩ (fun hHeld => ?_); refine with_tabW move_Dims.tab16 move_Dims.bits16 (fun HT_ HW_ => ?_)
      generalize wr.drew = w25 at za HB zac hx335_0 hHeld ⊢
      refine pP (i := 0) (N := some 56) (bm 9 1) rfl rfl HT_.out ?_
      refine pP (i := 1) (N := some 57) (bm 9 3) rfl rfl HT_.out ?_
      refine pT (i := 2) (N := some 58) (bm 9 7) rfl rfl HT_.out HW_.out hHeld (by rintro w' ⟨s0, s1, s2, s3, s4, s5, s6, s7, s8, s9, s10⟩; go_simp; with_reducible rfl) ?_
      refine pT (i := 3) (N := some 59) (bm 9 15) rfl rfl HT_.out HW_.out hHeld (by rintro w' ⟨s0, s1, s2, s3, s4, s5, s6, s7, s8, s9, s10⟩; go_simp; with_reducible rfl) ?_
      refine one_ (i := 4) (N := some 60) (bm 9 31) rfl rfl (one_of HT_.out (by kernel_rfl)) (by decide) (fun K hK => ?_)
      refine goes_ Try.func33 (by kernel_rfl) rfl #[.slice A335_0 (rd_L1 l2 0).length c335_0, .agg #[.int .i64 a1_0, .int .i64 a1_1, .int .i64 a1_2, .int .i64 a1_3, .int .i64 a1_4, .int .i64 a1_5, .int .i64 a1_6, .int .i64 a1_7, .bool a1_8, .slice A1_9 l1_9.length c1_9]] (by rfl) rfl rfl pA ?_
      with_reducible refine (move_put.calls k2 _ _ (rd_L1 l2 0) a1_0 a1_1 a1_2 a1_3 a1_4 a1_5 a1_6 a1_7 a1_8 _ _ l1_9 t336 t339 _ ?s1 ?s2 ?s3 ?s4 A24.out).mono ?_
      (case s1 => exact sC zac HB)
      (case s2 => exact HC335_0.out)
      (case s3 => exact sC z6 HB)
      (case s4 => exact z7.out)
      rintro e w26 ⟨v337, rfl, ho0, hb⟩
      refine ⟨_, rfl, ?_⟩
      have HO338 := aM (Kd.R_lower ho0 (below_size (qB1 HB ze)))
      replace za := bK za hb
      replace HB := bS (qB1 HB ze) hb
      (try clear hb)
      (try clear ho0)
      refine hK.out _ _ ⟨(blk_cell za.out 0).trans rfl, (blk_cell za.out 1).trans rfl, (blk_cell za.out 2).trans rfl, (blk_cell za.out 3).trans rfl, (blk_cell za.out 4).trans rfl, (blk_cell za.out 5).trans rfl, (blk_cell za.out 6).trans rfl, (blk_cell za.out 7).trans rfl, (blk_cell za.out 8).trans rfl, (blk_cell za.out 9).trans rfl, ((HB.out.cell (World.block_lt_of_cell? w _ hw335_0)).trans hw335_0)⟩ (fun hHeld => ?_)
      clear hK K
      refine norm_ (a' := ?_) ?_ ?_
      rotate_left
      ·show Act.put _ (some 60) _ = _
       simp only [Act.put, sP, i64_w, i32_w]
       rfl
      refine pP (i := 5) (N := some 61) (bm 9 63) rfl rfl HT_.out ?_
      refine pP (i := 6) (N := some 62) (bm 9 127) rfl rfl HT_.out ?_
      refine pP (i := 7) (N := some 6) (bm 9 255) rfl rfl HT_.out ?_
      refine pP (i := 8) (N := some 7) (bm 9 511) rfl rfl HT_.out ?_
      refine done_ (done_of HT_.out (by kernel_rfl)) ?_
      try go_wp2
      go_ret2
      exact ⟨_, pE, pR HO338.out, qB1 HB ze⟩
     rw [if_neg c22] at H
     have c22b0 : (a0 == 39) = false := beq_eq_false_iff_ne.mpr c22
     have c22b1 : (a0 != 39) = true := bne_iff_ne.mpr c22
     by_cases c27 : a0 = 40
     ·rw [if_pos c27] at H
      have c27b0 : (a0 == 40) = true := beq_iff_eq.mpr c27
      have c27b1 : (a0 != 40) = false := bne_eq_false_iff_eq.mpr c27
      clear c27
      by_cases c28 : 0 < (l2.length : Int)
      rotate_left
      ·rw [if_neg c28] at H
       exact absurd H (by simp)
      rw [if_pos c28] at H
      have c28b0 : decide (0 < (l2.length : Int)) = true := decide_eq_true c28
      have c28b1 : decide (0 < l2.length) = true := decide_eq_true (by omega)
      clear c28
      by_cases c29 : 1 < (l2.length : Int)
      rotate_left
      ·rw [if_neg c29] at H
       exact absurd H (by simp)
      rw [if_pos c29] at H
      have c29b0 : decide (1 < (l2.length : Int)) = true := decide_eq_true c29
      have c29b1 : decide (1 < l2.length) = true := decide_eq_true (by omega)
      clear c29
      replace H := Option.bind_eq_some_iff.mp H
      obtain ⟨⟨t342, t343⟩, zav, H⟩ := H
      try dsimp only at H
      have A30 := aM zav
      clear zav
      simp only [Option.some.injEq, Prod.mk.injEq] at H
      obtain ⟨rfl, rfl⟩ := H
      try go_wp2
      replace za := aM (blk_drew za.out)
      replace HB := aM (below_drew1 HB.out)
      have p340 : 0 ≤ (0 : Int) := (by omega)
      have q340 : 0 < (l2.length : Int) := of_decide_eq_true pD
      obtain ⟨ad340, A340_0, c340_0, e340, hx340_0, hl340_0, hi340_0⟩ := at_L1 HR2.out 0 p340 q340
      have hw340_0 := hx340_0
      (try rw [show ((0 : Int)).toNat = 0 from rfl] at hw340_0)
      (try rw [show 0 * 1 = 0 from rfl] at hw340_0)
      (try rw [Addr.add_zero'] at hw340_0)
      cases e340
      have qi340 : (0 < l2.length) = True := eq_true (by omega)
      (try rw [show ((0 : Int)).toNat = 0 from rfl] at hx340_0)
      (try rw [Addr.add_zero'] at hx340_0)
      replace hx340_0 := (HB.out.cell (World.block_lt_of_cell? w _ hx340_0)).trans hx340_0
      have zad := aM hi340_0
      have HC340_0 := aM hl340_0
      clear hi340_0 hl340_0
      replace p340 := eq_true p340
      replace q340 := eq_true q340
      have p341 : 0 ≤ (1 : Int) := (by omega)
      have q341 : 1 < (l2.length : Int) := of_decide_eq_true pD
      obtain ⟨ad341, A341_0, c341_0, e341, hx341_0, hl341_0, hi341_0⟩ := at_L1 HR2.out 1 p341 q341
      have hw341_0 := hx341_0
      (try rw [show ((1 : Int)).toNat = 1 from rfl] at hw341_0)
      (try rw [show 1 * 1 = 1 from rfl] at hw341_0)
      (try simp only [Nat.reduceMul, Nat.reduceEqDiff, Go.Addr.add, ↓reduceIte] at hw341_0)
      obtain rfl : ad340 = ad341 := (by injection e341)
      (try simp only [show (1 : Int).toNat = 1 from rfl, Nat.reduceMul, Nat.reduceEqDiff, Go.Addr.add, ↓reduceIte] at hx341_0)
      have qi341 : (1 < l2.length) = True := eq_true (by omega)
      (try rw [show ((1 : Int)).toNat = 1 from rfl] at hx341_0)
      replace hx341_0 := (HB.out.cell (World.block_lt_of_cell? w _ hx341_0)).trans hx341_0
      have zae := aM hi341_0
      have HC341_0 := aM hl341_0
      clear hi341_0 hl341_0
      replace p341 := eq_true p341
      replace q341 := eq_true q341
      refine start_ (n := 13) (S := fun w' => w'.cell? ⟨zc, 0, none⟩ = some (.int .i64 a1_0) ∧ w'.cell? ⟨zc, 1, none⟩ = some (.int .i64 a1_1) ∧ w'.cell? ⟨zc, 2, none⟩ = some (.int .i64 a1_2) ∧ w'.cell? ⟨zc, 3, none⟩ = some (.int .i64 a1_3) ∧ w'.cell? ⟨zc, 4, none⟩ = some (.int .i64 a1_4) ∧ w'.cell? ⟨zc, 5, none⟩ = some (.int .i64 a1_5) ∧ w'.cell? ⟨zc, 6, none⟩ = some (.int .i64 a1_6) ∧ w'.cell? ⟨zc, 7, none⟩ = some (.int .i64 a1_7) ∧ w'.cell? ⟨zc, 8, none⟩ = some (.bool a1_8) ∧ w'.cell? ⟨zc, 9, none⟩ = some (.slice A1_9 l1_9.length c1_9) ∧ w'.cell? ad340 = some (.slice A340_0 (rd_L1 l2 0).length c340_0) ∧ w'.cell? ⟨ad340.block, ad340.off + 1, none⟩ = some (.slice A341_0 (rd_L1 l2 1).length c341_0)) (ds := []) (bm 13 0) (by kernel_rfl) rfl rfl ⟨(blk_cell za.out 0).trans rfl, (blk_cell za.out 1).trans rfl, (blk_cell za.out 2).trans rfl, (blk_cell za.out 3).trans rfl, (blk_cell za.out 4).trans rfl, (blk_cell za.out 5).trans rfl, (blk_cell za.out 6).trans rfl, (blk_cell za.out 7).trans rfl, (blk_cell za.out 8).trans rfl, (blk_cell za.out 9).trans rfl, ((HB.out.cell (World.block_lt_of_cell? w _ hw340_0)).trans hw340_0), ((HB.out.cell (World.block_lt_of_cell? w _ hw341_0)).trans hw341_0)⟩ (fun hHeld => ?_); refine with_tabW move_Dims.tab18 move_Dims.bits18 (fun HT_ HW_ => ?_)
      generalize wr.drew = w31 at za HB zad zae hx340_0 hx341_0 hHeld ⊢
      refine pP (i := 0) (N := some 65) (bm 13 1) rfl rfl HT_.out ?_
      refine pP (i := 1) (N := some 66) (bm 13 3) rfl rfl HT_.out ?_
      refine pP (i := 3) (N := some 68) (bm 13 11) rfl rfl HT_.out ?_
      refine pP (i := 4) (N := some 69) (bm 13 27) rfl rfl HT_.out ?_
      refine pP (i := 6) (N := some 71) (bm 13 91) rfl rfl HT_.out ?_
      refine pT (i := 2) (N := some 67) (bm 13 95) rfl rfl HT_.out HW_.out hHeld (by rintro w' ⟨s0, s1, s2, s3, s4, s5, s6, s7, s8, s9, s10, s11⟩; go_simp; with_reducible rfl) ?_
      refine pT (i := 5) (N := some 70) (bm 13 127) rfl rfl HT_.out HW_.out hHeld (by rintro w' ⟨s0, s1, s2, s3, s4, s5, s6, s7, s8, s9, s10, s11⟩; go_simp; with_reducible rfl) ?_
      refine pT (i := 7) (N := some 72) (bm 13 255) rfl rfl HT_.out HW_.out hHeld (by rintro w' ⟨s0, s1, s2, s3, s4, s5, s6, s7, s8, s9, s10, s11⟩; go_simp; with_reducible rfl) ?_
      refine one_ (i := 8) (N := some 73) (bm 13 511) rfl rfl (one_of HT_.out (by kernel_rfl)) (by decide) (fun K hK => ?_)
      refine goes_ Try.func34 (by kernel_rfl) rfl #[.slice A340_0 (rd_L1 l2 0).length c340_0, .slice A341_0 (rd_L1 l2 1).length c341_0, .int .i64 a1_0] (by rfl) rfl rfl pA ?_
      with_reducible refine (move_joined.calls k2 _ _ (rd_L1 l2 0) _ _ (rd_L1 l2 1) a1_0 t342 t343 _ ?s1 ?s2 ?s3 ?s4 A30.out).mono ?_
      (case s1 => exact sC zad HB)
      (case s2 => exact HC340_0.out)
      (case s3 => exact sC zae HB)
      (case s4 => exact HC341_0.out)
      rintro e w32 ⟨v344, rfl, ho0, hb⟩
      refine ⟨_, rfl, ?_⟩
      have HO345 := aM (Kd.R_lower ho0 (below_size (qB1 HB ze)))
      replace za := bK za hb
      replace HB := bS (qB1 HB ze) hb
      (try clear hb)
      (try clear ho0)
      refine hK.out _ _ ⟨(blk_cell za.out 0).trans rfl, (blk_cell za.out 1).trans rfl, (blk_cell za.out 2).trans rfl, (blk_cell za.out 3).trans rfl, (blk_cell za.out 4).trans rfl, (blk_cell za.out 5).trans rfl, (blk_cell za.out 6).trans rfl, (blk_cell za.out 7).trans rfl, (blk_cell za.out 8).trans rfl, (blk_cell za.out 9).trans rfl, ((HB.out.cell (World.block_lt_of_cell? w _ hw340_0)).trans hw340_0), ((HB.out.cell (World.block_lt_of_cell? w _ hw341_0)).trans hw341_0)⟩ (fun hHeld => ?_)
      clear hK K
      refine norm_ (a' := ?_) ?_ ?_
      rotate_left
      ·show Act.put _ (some 73) _ = _
       simp only [Act.put, sP, i64_w, i32_w]
       rfl
      refine pP (i := 9) (N := some 74) (bm 13 1023) rfl rfl HT_.out ?_
      refine pP (i := 10) (N := some 75) (bm 13 2047) rfl rfl HT_.out ?_
      refine pP (i := 11) (N := some 6) (bm 13 4095) rfl rfl HT_.out ?_
      refine pP (i := 12) (N := some 7) (bm 13 8191) rfl rfl HT_.out ?_
      refine done_ (done_of HT_.out (by kernel_rfl)) ?_
      try go_wp2
      go_ret2
      exact ⟨_, pE, pR HO345.out, qB1 HB ze⟩
     rw [if_neg c27] at H
     have c27b0 : (a0 == 40) = false := beq_eq_false_iff_ne.mpr c27
     have c27b1 : (a0 != 40) = true := bne_iff_ne.mpr c27
     by_cases c33 : 0 < (l2.length : Int)
     rotate_left
     ·rw [if_neg c33] at H
      exact absurd H (by simp)
     rw [if_pos c33] at H
     have c33b0 : decide (0 < (l2.length : Int)) = true := decide_eq_true c33
     have c33b1 : decide (0 < l2.length) = true := decide_eq_true (by omega)
     clear c33
     replace H := Option.bind_eq_some_iff.mp H
     obtain ⟨⟨z4, zx, zy⟩, zaw, H⟩ := H
     try dsimp only at H
     have A34 := aM zaw
     clear zaw
     replace H := Option.bind_eq_some_iff.mp H
     obtain ⟨⟨zag, zan, zao, zah⟩, zax, H⟩ := H
     try dsimp only at H
     have A35 := aM zax
     clear zax
     simp only [Option.some.injEq, Prod.mk.injEq] at H
     obtain ⟨rfl, rfl⟩ := H
     try go_wp2
     replace za := aM (blk_drew za.out)
     replace HB := aM (below_drew1 HB.out)
     have p346 : 0 ≤ (0 : Int) := (by omega)
     have q346 : 0 < (l2.length : Int) := of_decide_eq_true pD
     obtain ⟨ad346, A346_0, c346_0, e346, hx346_0, hl346_0, hi346_0⟩ := at_L1 HR2.out 0 p346 q346
     have hw346_0 := hx346_0
     (try rw [show ((0 : Int)).toNat = 0 from rfl] at hw346_0)
     (try rw [show 0 * 1 = 0 from rfl] at hw346_0)
     (try rw [Addr.add_zero'] at hw346_0)
     cases e346
     have qi346 : (0 < l2.length) = True := eq_true (by omega)
     (try rw [show ((0 : Int)).toNat = 0 from rfl] at hx346_0)
     (try rw [Addr.add_zero'] at hx346_0)
     replace hx346_0 := (HB.out.cell (World.block_lt_of_cell? w _ hx346_0)).trans hx346_0
     have z5 := aM hi346_0
     have zaf := aM hl346_0
     clear hi346_0 hl346_0
     replace p346 := eq_true p346
     replace q346 := eq_true q346
     refine start_ (n := 13) (S := fun w' => w'.cell? ⟨zc, 0, none⟩ = some (.int .i64 a1_0) ∧ w'.cell? ⟨zc, 1, none⟩ = some (.int .i64 a1_1) ∧ w'.cell? ⟨zc, 2, none⟩ = some (.int .i64 a1_2) ∧ w'.cell? ⟨zc, 3, none⟩ = some (.int .i64 a1_3) ∧ w'.cell? ⟨zc, 4, none⟩ = some (.int .i64 a1_4) ∧ w'.cell? ⟨zc, 5, none⟩ = some (.int .i64 a1_5) ∧ w'.cell? ⟨zc, 6, none⟩ = some (.int .i64 a1_6) ∧ w'.cell? ⟨zc, 7, none⟩ = some (.int .i64 a1_7) ∧ w'.cell? ⟨zc, 8, none⟩ = some (.bool a1_8) ∧ w'.cell? ⟨zc, 9, none⟩ = some (.slice A1_9 l1_9.length c1_9) ∧ w'.cell? ad346 = some (.slice A346_0 (rd_L1 l2 0).length c346_0)) (ds := []) (bm 13 0) (by kernel_rfl) rfl rfl ⟨(blk_cell za.out 0).trans rfl, (blk_cell za.out 1).trans rfl, (blk_cell za.out 2).trans rfl, (blk_cell za.out 3).trans rfl, (blk_cell za.out 4).trans rfl, (blk_cell za.out 5).trans rfl, (blk_cell za.out 6).trans rfl, (blk_cell za.out 7).trans rfl, (blk_cell za.out 8).trans rfl, (blk_cell za.out 9).trans rfl, ((HB.out.cell (World.block_lt_of_cell? w _ hw346_0)).trans hw346_0)⟩ (fun hHeld => ?_); refine with_tabW move_Dims.tab19 move_Dims.bits19 (fun HT_ HW_ => ?_)
     generalize wr.drew = w36 at za HB z5 hx346_0 hHeld ⊢
     refine pP (i := 0) (N := some 77) (bm 13 1) rfl rfl HT_.out ?_
     refine pP (i := 2) (N := some 79) (bm 13 5) rfl rfl HT_.out ?_
     refine pP (i := 3) (N := some 80) (bm 13 13) rfl rfl HT_.out ?_
     refine pT (i := 1) (N := some 78) (bm 13 15) rfl rfl HT_.out HW_.out hHeld (by rintro w' ⟨s0, s1, s2, s3, s4, s5, s6, s7, s8, s9, s10⟩; go_simp; with_reducible rfl) ?_
     refine pT (i := 4) (N := some 81) (bm 13 31) rfl rfl HT_.out HW_.out hHeld (by rintro w' ⟨s0, s1, s2, s3, s4, s5, s6, s7, s8, s9, s10⟩; go_simp; with_reducible rfl) ?_
     refine join_ (σ := Value × Value × Value × Value × Nat) 2 (bm 13 2047) (fun s_ => [(82, .agg #[.int .i64 z4, s_.1, s_.2.1]), (83, .tuple #[.agg #[.int .i64 zag, s_.2.2.1, s_.2.2.2.1], .int .i64 zah]), (11, .pointer (some ⟨s_.2.2.2.2, 0, none⟩)), (76, .tuple #[.agg #[.int .i64 zag, s_.2.2.1, s_.2.2.2.1], .int .i64 zah]), (84, .agg #[.int .i64 zag, s_.2.2.1, s_.2.2.2.1]), (85, .int .i64 zah)]) (fun s_ w' => (w'.cell? ⟨zc, 0, none⟩ = some (.int .i64 a1_0) ∧ w'.cell? ⟨zc, 1, none⟩ = some (.int .i64 a1_1) ∧ w'.cell? ⟨zc, 2, none⟩ = some (.int .i64 a1_2) ∧ w'.cell? ⟨zc, 3, none⟩ = some (.int .i64 a1_3) ∧ w'.cell? ⟨zc, 4, none⟩ = some (.int .i64 a1_4) ∧ w'.cell? ⟨zc, 5, none⟩ = some (.int .i64 a1_5) ∧ w'.cell? ⟨zc, 6, none⟩ = some (.int .i64 a1_6) ∧ w'.cell? ⟨zc, 7, none⟩ = some (.int .i64 a1_7) ∧ w'.cell? ⟨zc, 8, none⟩ = some (.bool a1_8) ∧ w'.cell? ⟨zc, 9, none⟩ = some (.slice A1_9 l1_9.length c1_9) ∧ w'.cell? ad346 = some (.slice A346_0 (rd_L1 l2 0).length c346_0)) ∧ (Kd.R (Kd.int .i64) 3 w' w.heap.size (fun k_ => some k_ ≠ (s_.2.1 : Value).ownBlock ∧ some k_ ≠ (s_.2.2.1 : Value).ownBlock ∧ some k_ ≠ (s_.2.2.2.1 : Value).ownBlock) s_.1 zx) ∧ (Kd.R (Kd.int .i64) 3 w' w.heap.size (fun k_ => some k_ ≠ (s_.1 : Value).ownBlock ∧ some k_ ≠ (s_.2.2.1 : Value).ownBlock ∧ some k_ ≠ (s_.2.2.2.1 : Value).ownBlock) s_.2.1 zy) ∧ (Kd.R (Kd.int .i64) 3 w' w.heap.size (fun k_ => some k_ ≠ (s_.1 : Value).ownBlock ∧ some k_ ≠ (s_.2.1 : Value).ownBlock ∧ some k_ ≠ (s_.2.2.2.1 : Value).ownBlock) s_.2.2.1 zan) ∧ (Kd.R (Kd.int .i64) 3 w' w.heap.size (fun k_ => some k_ ≠ (s_.1 : Value).ownBlock ∧ some k_ ≠ (s_.2.1 : Value).ownBlock ∧ some k_ ≠ (s_.2.2.1 : Value).ownBlock) s_.2.2.2.1 zao) ∧ (w'.heap[zc]? = some (.cells #[.int .i64 a1_0, .int .i64 a1_1, .int .i64 a1_2, .int .i64 a1_3, .int .i64 a1_4, .int .i64 a1_5, .int .i64 a1_6, .int .i64 a1_7, .bool a1_8, .slice A1_9 l1_9.length c1_9] 24 (0, 0))) ∧ (w'.heap[s_.2.2.2.2]? = some (.cells #[.int .i64 0, .slice none 0 0, .slice none 0 0] 44 (0, 0))) ∧ (w.heap.size ≤ s_.2.2.2.2) ∧ (w.heap.size ≤ s_.2.2.2.2) ∧ (zc ≠ s_.2.2.2.2) ∧ (s_.2.2.2.2 ≠ zc) ∧ (Below w.heap.size w w')) ?_ ?_
     rotate_left
     ·intro hCont
      refine two_ (i := 5) (j := 10) (Ni := some 82) (Nj := some 11) (bm 13 63) (bm 13 1055) rfl rfl rfl rfl (two_of HT_.out (by kernel_rfl)) (by decide) (by decide) (fun K hK => ?_) (fun K hK => ?_)
      ·skip
       refine goes_ Try.func35 (by kernel_rfl) rfl #[.slice A346_0 (rd_L1 l2 0).length c346_0] (by rfl) rfl rfl pA ?_
       with_reducible refine (view_Whole.calls k2 _ _ (rd_L1 l2 0) z4 zx zy _ ?s1 ?s2 A34.out).mono ?_
       (case s1 => exact sC z5 HB)
       (case s2 => exact zaf.out)
       rintro e w37 ⟨zai, zaj, rfl, ho0, ho1, hb⟩
       refine ⟨_, rfl, ?_⟩
       have zf := aM (Kd.R_lower ho0 (below_size (qB1 HB ze)))
       have zg := aM (Kd.R_lower ho1 (below_size (qB1 HB ze)))
       replace za := bK za hb
       replace HB := bS (qB1 HB ze) hb
       (try clear hb)
       (try clear ho0)
       (try clear ho1)
       obtain ⟨zay, zaz, za0⟩ := Kd.R_slice zf.out
       (first | subst za0 | (injection za0 with f1_ f2_ f3_; have f4_ := f1_.symm; have f5_ := f3_.symm; clear f1_ f2_ f3_; subst f4_; subst f5_))
       obtain ⟨z8, z9, zaa⟩ := Kd.R_slice zg.out
       (first | subst zaa | (injection zaa with f1_ f2_ f3_; have f4_ := f1_.symm; have f5_ := f3_.symm; clear f1_ f2_ f3_; subst f4_; subst f5_))
       refine hK.out _ _ ⟨(blk_cell za.out 0).trans rfl, (blk_cell za.out 1).trans rfl, (blk_cell za.out 2).trans rfl, (blk_cell za.out 3).trans rfl, (blk_cell za.out 4).trans rfl, (blk_cell za.out 5).trans rfl, (blk_cell za.out 6).trans rfl, (blk_cell za.out 7).trans rfl, (blk_cell za.out 8).trans rfl, (blk_cell za.out 9).trans rfl, ((HB.out.cell (World.block_lt_of_cell? w _ hw346_0)).trans hw346_0)⟩ (fun hHeld => ?_)
       clear hK K
       refine norm_ (a' := ?_) ?_ ?_
       rotate_left
       ·show Act.put _ (some 82) _ = _
        simp only [Act.put, sP, i64_w, i32_w]
        rfl
       refine two_ (i := 6) (j := 10) (Ni := some 83) (Nj := some 11) (bm 13 127) (bm 13 1087) rfl rfl rfl rfl (two_of HT_.out (by kernel_rfl)) (by decide) (by decide) (fun K hK => ?_) (fun K hK => ?_)
       ·skip
        refine goes_ Try.func18 (by kernel_rfl) rfl #[.int .i64 a0, .agg #[.int .i64 a1_0, .int .i64 a1_1, .int .i64 a1_2, .int .i64 a1_3, .int .i64 a1_4, .int .i64 a1_5, .int .i64 a1_6, .int .i64 a1_7, .bool a1_8, .slice A1_9 l1_9.length c1_9], .agg #[.int .i64 z4, .slice zay zx.length zaz, .slice z8 zy.length z9]] (by rfl) rfl rfl pA ?_
        with_reducible refine (move_View.calls k2 a0 a1_0 a1_1 a1_2 a1_3 a1_4 a1_5 a1_6 a1_7 a1_8 _ _ l1_9 z4 _ _ zx _ _ zy zag zan zao zah _ ?s1 ?s2 ?s3 ?s4 ?s5 ?s6 A35.out).mono ?_
        (case s1 => exact sC z6 HB)
        (case s2 => exact z7.out)
        (case s3 => exact sR zf)
        (case s4 => exact sL zf)
        (case s5 => exact sR zg)
        (case s6 => exact sL zg)
        rintro e w40 ⟨z0, z1, rfl, ho0, ho1, hb⟩
        refine ⟨_, rfl, ?_⟩
        have zv := aM (Kd.R_lower (Kd.R_new' (Kd.R_new' ho0 (Kd.R_lt (pR zf.out))) (Kd.R_lt (pR zg.out))) (below_size (qB1 HB ze)))
        have zw := aM (Kd.R_lower (Kd.R_new' (Kd.R_new' ho1 (Kd.R_lt (pR zf.out))) (Kd.R_lt (pR zg.out))) (below_size (qB1 HB ze)))
        replace zf := eR2 zf ho0 ho1 hb
        replace zg := eR2 zg ho0 ho1 hb
        replace za := bK za hb
        replace HB := bS (qB1 HB ze) hb
        (try clear hb)
        (try clear ho0)
        (try clear ho1)
        refine hK.out _ _ ⟨(blk_cell za.out 0).trans rfl, (blk_cell za.out 1).trans rfl, (blk_cell za.out 2).trans rfl, (blk_cell za.out 3).trans rfl, (blk_cell za.out 4).trans rfl, (blk_cell za.out 5).trans rfl, (blk_cell za.out 6).trans rfl, (blk_cell za.out 7).trans rfl, (blk_cell za.out 8).trans rfl, (blk_cell za.out 9).trans rfl, ((HB.out.cell (World.block_lt_of_cell? w _ hw346_0)).trans hw346_0)⟩ (fun hHeld => ?_)
        clear hK K
        refine norm_ (a' := ?_) ?_ ?_
        rotate_left
        ·show Act.put _ (some 83) _ = _
         simp only [Act.put, sP, i64_w, i32_w]
         rfl
        refine pP (i := 7) (N := some 76) (bm 13 255) rfl rfl HT_.out ?_
        refine pP (i := 8) (N := some 84) (bm 13 511) rfl rfl HT_.out ?_
        refine pP (i := 9) (N := some 85) (bm 13 1023) rfl rfl HT_.out ?_
        refine one_ (i := 10) (N := some 11) (bm 13 2047) rfl rfl (one_of HT_.out (by kernel_rfl)) (by decide) (fun K hK => ?_)
        refine box_step ?hg (N := 11) ?hd (cs := #[.int .i64 0, .slice none 0 0, .slice none 0 0]) (t := 44) ?hr ?_; (case hd => rfl); (case hg => rfl); (case hr => first | (go_simp; done) | (go_simp; rfl))
        intro zd hg w41 hbox hb
        replace zf := bR zf hb
        replace zg := bR zg hb
        replace zv := bR zv hb
        replace zw := bR zw hb
        have zj := aM (hbox)
        have zi := gE (w := w) hg (qB1 HB ze)
        have zk := zi
        replace HB := bS (qB1 HB ze) hb
        have zb := nL hg za
        have zh := nG hg za
        replace za := bK za hb
        clear hb hbox hg
        refine hK.out _ _ ⟨(blk_cell za.out 0).trans rfl, (blk_cell za.out 1).trans rfl, (blk_cell za.out 2).trans rfl, (blk_cell za.out 3).trans rfl, (blk_cell za.out 4).trans rfl, (blk_cell za.out 5).trans rfl, (blk_cell za.out 6).trans rfl, (blk_cell za.out 7).trans rfl, (blk_cell za.out 8).trans rfl, (blk_cell za.out 9).trans rfl, ((HB.out.cell (World.block_lt_of_cell? w _ hw346_0)).trans hw346_0)⟩ (fun hHeld => ?_)
        clear hK K
        refine norm_ (a' := ?_) ?_ ?_
        rotate_left
        ·show Act.put _ (some 11) _ = _
         simp only [Act.put, sP, i64_w, i32_w]
         rfl
        exact norm_ (by simp only [putAll, Act.put, sP]) (hCont (.slice zay zx.length zaz, .slice z8 zy.length z9, z0, z1, zd) _ ⟨hHeld, (by (with_reducible repeat (first | apply rA | apply rN | apply rD)); exact Kd.R_mono zf.out (fun _ hk => ⟨hk.1.1, ⟨hk.1.2, hk.2⟩⟩)), (by (with_reducible repeat (first | apply rA | apply rN | apply rD)); exact Kd.R_mono zg.out (fun _ hk => ⟨hk.1.1, ⟨hk.1.2, hk.2⟩⟩)), (by (with_reducible repeat (first | apply rA | apply rN | apply rD)); exact Kd.R_mono zv.out (fun _ hk => ⟨hk.1.2, ⟨hk.2, hk.1.1⟩⟩)), (by (with_reducible repeat (first | apply rA | apply rN | apply rD)); exact Kd.R_mono zw.out (fun _ hk => ⟨hk.1.2, ⟨hk.2, hk.1.1⟩⟩)), (pK za.out), (pK zj.out), zi.out, zk.out, zb.out, zh.out, (qB2 HB ze zk)⟩)
       ·skip
        refine box_step ?hg (N := 11) ?hd (cs := #[.int .i64 0, .slice none 0 0, .slice none 0 0]) (t := 44) ?hr ?_; (case hd => rfl); (case hg => rfl); (case hr => first | (go_simp; done) | (go_simp; rfl))
        intro zd hg w38 hbox hb
        replace zf := bR zf hb
        replace zg := bR zg hb
        have zj := aM (hbox)
        have zi := gE (w := w) hg (qB1 HB ze)
        have zk := zi
        replace HB := bS (qB1 HB ze) hb
        have zb := nL hg za
        have zh := nG hg za
        replace za := bK za hb
        clear hb hbox hg
        obtain ⟨z8, z9, zaa⟩ := Kd.R_slice zf.out
        (first | subst zaa | (injection zaa with f1_ f2_ f3_; have f4_ := f1_.symm; have f5_ := f3_.symm; clear f1_ f2_ f3_; subst f4_; subst f5_))
        obtain ⟨zap, zaq, zar⟩ := Kd.R_slice zg.out
        (first | subst zar | (injection zar with f1_ f2_ f3_; have f4_ := f1_.symm; have f5_ := f3_.symm; clear f1_ f2_ f3_; subst f4_; subst f5_))
        refine hK.out _ _ ⟨(blk_cell za.out 0).trans rfl, (blk_cell za.out 1).trans rfl, (blk_cell za.out 2).trans rfl, (blk_cell za.out 3).trans rfl, (blk_cell za.out 4).trans rfl, (blk_cell za.out 5).trans rfl, (blk_cell za.out 6).trans rfl, (blk_cell za.out 7).trans rfl, (blk_cell za.out 8).trans rfl, (blk_cell za.out 9).trans rfl, ((HB.out.cell (World.block_lt_of_cell? w _ hw346_0)).trans hw346_0)⟩ (fun hHeld => ?_)
        clear hK K
        refine norm_ (a' := ?_) ?_ ?_
        rotate_left
        ·show Act.put _ (some 11) _ = _
         simp only [Act.put, sP, i64_w, i32_w]
         rfl
        refine one_ (i := 6) (N := some 83) (bm 13 1151) rfl rfl (one_of HT_.out (by kernel_rfl)) (by decide) (fun K hK => ?_)
        refine goes_ Try.func18 (by kernel_rfl) rfl #[.int .i64 a0, .agg #[.int .i64 a1_0, .int .i64 a1_1, .int .i64 a1_2, .int .i64 a1_3, .int .i64 a1_4, .int .i64 a1_5, .int .i64 a1_6, .int .i64 a1_7, .bool a1_8, .slice A1_9 l1_9.length c1_9], .agg #[.int .i64 z4, .slice z8 zx.length z9, .slice zap zy.length zaq]] (by rfl) rfl rfl pA ?_
        with_reducible refine (move_View.calls k2 a0 a1_0 a1_1 a1_2 a1_3 a1_4 a1_5 a1_6 a1_7 a1_8 _ _ l1_9 z4 _ _ zx _ _ zy zag zan zao zah _ ?s1 ?s2 ?s3 ?s4 ?s5 ?s6 A35.out).mono ?_
        (case s1 => exact sC z6 HB)
        (case s2 => exact z7.out)
        (case s3 => exact sR zf)
        (case s4 => exact sL zf)
        (case s5 => exact sR zg)
        (case s6 => exact sL zg)
        rintro e w41 ⟨z0, z1, rfl, ho0, ho1, hb⟩
        refine ⟨_, rfl, ?_⟩
        have zv := aM (Kd.R_lower (Kd.R_new' (Kd.R_new' ho0 (Kd.R_lt (pR zf.out))) (Kd.R_lt (pR zg.out))) (below_size (qB2 HB ze zk)))
        have zw := aM (Kd.R_lower (Kd.R_new' (Kd.R_new' ho1 (Kd.R_lt (pR zf.out))) (Kd.R_lt (pR zg.out))) (below_size (qB2 HB ze zk)))
        replace zf := eR2 zf ho0 ho1 hb
        replace zg := eR2 zg ho0 ho1 hb
        replace za := bK za hb
        replace zj := bK zj hb
        replace HB := bS (qB2 HB ze zk) hb
        (try clear hb)
        (try clear ho0)
        (try clear ho1)
        refine hK.out _ _ ⟨(blk_cell za.out 0).trans rfl, (blk_cell za.out 1).trans rfl, (blk_cell za.out 2).trans rfl, (blk_cell za.out 3).trans rfl, (blk_cell za.out 4).trans rfl, (blk_cell za.out 5).trans rfl, (blk_cell za.out 6).trans rfl, (blk_cell za.out 7).trans rfl, (blk_cell za.out 8).trans rfl, (blk_cell za.out 9).trans rfl, ((HB.out.cell (World.block_lt_of_cell? w _ hw346_0)).trans hw346_0)⟩ (fun hHeld => ?_)
        clear hK K
        refine norm_ (a' := ?_) ?_ ?_
        rotate_left
        ·show Act.put _ (some 83) _ = _
         simp only [Act.put, sP, i64_w, i32_w]
         rfl
        refine pP (i := 7) (N := some 76) (bm 13 1279) rfl rfl HT_.out ?_
        refine pP (i := 8) (N := some 84) (bm 13 1535) rfl rfl HT_.out ?_
        refine pP (i := 9) (N := some 85) (bm 13 2047) rfl rfl HT_.out ?_
        exact norm_ (by simp only [putAll, Act.put, sP]) (hCont (.slice z8 zx.length z9, .slice zap zy.length zaq, z0, z1, zd) _ ⟨hHeld, (by (with_reducible repeat (first | apply rA | apply rN | apply rD)); exact Kd.R_mono zf.out (fun _ hk => ⟨hk.1.1, ⟨hk.1.2, hk.2⟩⟩)), (by (with_reducible repeat (first | apply rA | apply rN | apply rD)); exact Kd.R_mono zg.out (fun _ hk => ⟨hk.1.1, ⟨hk.1.2, hk.2⟩⟩)), (by (with_reducible repeat (first | apply rA | apply rN | apply rD)); exact Kd.R_mono zv.out (fun _ hk => ⟨hk.1.2, ⟨hk.2, hk.1.1⟩⟩)), (by (with_reducible repeat (first | apply rA | apply rN | apply rD)); exact Kd.R_mono zw.out (fun _ hk => ⟨hk.1.2, ⟨hk.2, hk.1.1⟩⟩)), (pK za.out), (pK zj.out), zi.out, zk.out, zb.out, zh.out, (qB2 HB ze zk)⟩)
      ·skip
       refine box_step ?hg (N := 11) ?hd (cs := #[.int .i64 0, .slice none 0 0, .slice none 0 0]) (t := 44) ?hr ?_; (case hd => rfl); (case hg => rfl); (case hr => first | (go_simp; done) | (go_simp; rfl))
       intro zd hg w37 hbox hb
       have zj := aM (hbox)
       have zi := gE (w := w) hg (qB1 HB ze)
       have zk := zi
       replace HB := bS (qB1 HB ze) hb
       have zb := nL hg za
       have zh := nG hg za
       replace za := bK za hb
       clear hb hbox hg
       refine hK.out _ _ ⟨(blk_cell za.out 0).trans rfl, (blk_cell za.out 1).trans rfl, (blk_cell za.out 2).trans rfl, (blk_cell za.out 3).trans rfl, (blk_cell za.out 4).trans rfl, (blk_cell za.out 5).trans rfl, (blk_cell za.out 6).trans rfl, (blk_cell za.out 7).trans rfl, (blk_cell za.out 8).trans rfl, (blk_cell za.out 9).trans rfl, ((HB.out.cell (World.block_lt_of_cell? w _ hw346_0)).trans hw346_0)⟩ (fun hHeld => ?_)
       clear hK K
       refine norm_ (a' := ?_) ?_ ?_
       rotate_left
       ·show Act.put _ (some 11) _ = _
        simp only [Act.put, sP, i64_w, i32_w]
        rfl
       refine one_ (i := 5) (N := some 82) (bm 13 1087) rfl rfl (one_of HT_.out (by kernel_rfl)) (by decide) (fun K hK => ?_)
       refine goes_ Try.func35 (by kernel_rfl) rfl #[.slice A346_0 (rd_L1 l2 0).length c346_0] (by rfl) rfl rfl pA ?_
       with_reducible refine (view_Whole.calls k2 _ _ (rd_L1 l2 0) z4 zx zy _ ?s1 ?s2 A34.out).mono ?_
       (case s1 => exact sC z5 HB)
       (case s2 => exact zaf.out)
       rintro e w38 ⟨zai, zaj, rfl, ho0, ho1, hb⟩
       refine ⟨_, rfl, ?_⟩
       have zf := aM (Kd.R_lower ho0 (below_size (qB2 HB ze zk)))
       have zg := aM (Kd.R_lower ho1 (below_size (qB2 HB ze zk)))
       replace za := bK za hb
       replace zj := bK zj hb
       replace HB := bS (qB2 HB ze zk) hb
       (try clear hb)
       (try clear ho0)
       (try clear ho1)
       obtain ⟨z8, z9, zaa⟩ := Kd.R_slice zf.out
       (first | subst zaa | (injection zaa with f1_ f2_ f3_; have f4_ := f1_.symm; have f5_ := f3_.symm; clear f1_ f2_ f3_; subst f4_; subst f5_))
       obtain ⟨zap, zaq, zar⟩ := Kd.R_slice zg.out
       (first | subst zar | (injection zar with f1_ f2_ f3_; have f4_ := f1_.symm; have f5_ := f3_.symm; clear f1_ f2_ f3_; subst f4_; subst f5_))
       refine hK.out _ _ ⟨(blk_cell za.out 0).trans rfl, (blk_cell za.out 1).trans rfl, (blk_cell za.out 2).trans rfl, (blk_cell za.out 3).trans rfl, (blk_cell za.out 4).trans rfl, (blk_cell za.out 5).trans rfl, (blk_cell za.out 6).trans rfl, (blk_cell za.out 7).trans rfl, (blk_cell za.out 8).trans rfl, (blk_cell za.out 9).trans rfl, ((HB.out.cell (World.block_lt_of_cell? w _ hw346_0)).trans hw346_0)⟩ (fun hHeld => ?_)
       clear hK K
       refine norm_ (a' := ?_) ?_ ?_
       rotate_left
       ·show Act.put _ (some 82) _ = _
        simp only [Act.put, sP, i64_w, i32_w]
        rfl
       refine one_ (i := 6) (N := some 83) (bm 13 1151) rfl rfl (one_of HT_.out (by kernel_rfl)) (by decide) (fun K hK => ?_)
       refine goes_ Try.func18 (by kernel_rfl) rfl #[.int .i64 a0, .agg #[.int .i64 a1_0, .int .i64 a1_1, .int .i64 a1_2, .int .i64 a1_3, .int .i64 a1_4, .int .i64 a1_5, .int .i64 a1_6, .int .i64 a1_7, .bool a1_8, .slice A1_9 l1_9.length c1_9], .agg #[.int .i64 z4, .slice z8 zx.length z9, .slice zap zy.length zaq]] (by rfl) rfl rfl pA ?_
       with_reducible refine (move_View.calls k2 a0 a1_0 a1_1 a1_2 a1_3 a1_4 a1_5 a1_6 a1_7 a1_8 _ _ l1_9 z4 _ _ zx _ _ zy zag zan zao zah _ ?s1 ?s2 ?s3 ?s4 ?s5 ?s6 A35.out).mono ?_
       (case s1 => exact sC z6 HB)
       (case s2 => exact z7.out)
       (case s3 => exact sR zf)
       (case s4 => exact sL zf)
       (case s5 => exact sR zg)
       (case s6 => exact sL zg)
       rintro e w41 ⟨z0, z1, rfl, ho0, ho1, hb⟩
       refine ⟨_, rfl, ?_⟩
       have zv := aM (Kd.R_lower (Kd.R_new' (Kd.R_new' ho0 (Kd.R_lt (pR zf.out))) (Kd.R_lt (pR zg.out))) (below_size (qB2 HB ze zk)))
       have zw := aM (Kd.R_lower (Kd.R_new' (Kd.R_new' ho1 (Kd.R_lt (pR zf.out))) (Kd.R_lt (pR zg.out))) (below_size (qB2 HB ze zk)))
       replace zf := eR2 zf ho0 ho1 hb
       replace zg := eR2 zg ho0 ho1 hb
       replace za := bK za hb
       replace zj := bK zj hb
       replace HB := bS (qB2 HB ze zk) hb
       (try clear hb)
       (try clear ho0)
       (try clear ho1)
       refine hK.out _ _ ⟨(blk_cell za.out 0).trans rfl, (blk_cell za.out 1).trans rfl, (blk_cell za.out 2).trans rfl, (blk_cell za.out 3).trans rfl, (blk_cell za.out 4).trans rfl, (blk_cell za.out 5).trans rfl, (blk_cell za.out 6).trans rfl, (blk_cell za.out 7).trans rfl, (blk_cell za.out 8).trans rfl, (blk_cell za.out 9).trans rfl, ((HB.out.cell (World.block_lt_of_cell? w _ hw346_0)).trans hw346_0)⟩ (fun hHeld => ?_)
       clear hK K
       refine norm_ (a' := ?_) ?_ ?_
       rotate_left
       ·show Act.put _ (some 83) _ = _
        simp only [Act.put, sP, i64_w, i32_w]
        rfl
       refine pP (i := 7) (N := some 76) (bm 13 1279) rfl rfl HT_.out ?_
       refine pP (i := 8) (N := some 84) (bm 13 1535) rfl rfl HT_.out ?_
       refine pP (i := 9) (N := some 85) (bm 13 2047) rfl rfl HT_.out ?_
       exact norm_ (by simp only [putAll, Act.put, sP]) (hCont (.slice z8 zx.length z9, .slice zap zy.length zaq, z0, z1, zd) _ ⟨hHeld, (by (with_reducible repeat (first | apply rA | apply rN | apply rD)); exact Kd.R_mono zf.out (fun _ hk => ⟨hk.1.1, ⟨hk.1.2, hk.2⟩⟩)), (by (with_reducible repeat (first | apply rA | apply rN | apply rD)); exact Kd.R_mono zg.out (fun _ hk => ⟨hk.1.1, ⟨hk.1.2, hk.2⟩⟩)), (by (with_reducible repeat (first | apply rA | apply rN | apply rD)); exact Kd.R_mono zv.out (fun _ hk => ⟨hk.1.2, ⟨hk.2, hk.1.1⟩⟩)), (by (with_reducible repeat (first | apply rA | apply rN | apply rD)); exact Kd.R_mono zw.out (fun _ hk => ⟨hk.1.2, ⟨hk.2, hk.1.1⟩⟩)), (pK za.out), (pK zj.out), zi.out, zk.out, zb.out, zh.out, (qB2 HB ze zk)⟩)
     rintro ⟨zai, zaj, z0, z1, zd⟩ w42 ⟨hS_, h0_, h1_, h2_, h3_, h4_, h5_, h6_, h7_, h8_, h9_, h10_⟩
     have n0_ : Aside0 (Kd.R (Kd.int .i64) 3 w42 w.heap.size (fun k_ => some k_ ≠ (zaj : Value).ownBlock ∧ some k_ ≠ (z0 : Value).ownBlock ∧ some k_ ≠ (z1 : Value).ownBlock) zai zx) := ⟨h0_⟩
     have n1_ : Aside0 (Kd.R (Kd.int .i64) 3 w42 w.heap.size (fun k_ => some k_ ≠ (zai : Value).ownBlock ∧ some k_ ≠ (z0 : Value).ownBlock ∧ some k_ ≠ (z1 : Value).ownBlock) zaj zy) := ⟨h1_⟩
     have n2_ : Aside0 (Kd.R (Kd.int .i64) 3 w42 w.heap.size (fun k_ => some k_ ≠ (zai : Value).ownBlock ∧ some k_ ≠ (zaj : Value).ownBlock ∧ some k_ ≠ (z1 : Value).ownBlock) z0 zan) := ⟨h2_⟩
     have n3_ : Aside0 (Kd.R (Kd.int .i64) 3 w42 w.heap.size (fun k_ => some k_ ≠ (zai : Value).ownBlock ∧ some k_ ≠ (zaj : Value).ownBlock ∧ some k_ ≠ (z0 : Value).ownBlock) z1 zao) := ⟨h3_⟩
     have n4_ : Aside0 (w42.heap[zc]? = some (.cells #[.int .i64 a1_0, .int .i64 a1_1, .int .i64 a1_2, .int .i64 a1_3, .int .i64 a1_4, .int .i64 a1_5, .int .i64 a1_6, .int .i64 a1_7, .bool a1_8, .slice A1_9 l1_9.length c1_9] 24 (0, 0))) := ⟨h4_⟩
     have n5_ : Aside0 (w42.heap[zd]? = some (.cells #[.int .i64 0, .slice none 0 0, .slice none 0 0] 44 (0, 0))) := ⟨h5_⟩
     have n6_ : Aside0 (w.heap.size ≤ zd) := ⟨h6_⟩
     have n7_ : Aside0 (w.heap.size ≤ zd) := ⟨h7_⟩
     have n8_ : Aside0 (zc ≠ zd) := ⟨h8_⟩
     have n9_ : Aside0 (zd ≠ zc) := ⟨h9_⟩
     have n10_ : Aside0 (Below w.heap.size w w42) := ⟨h10_⟩
     clear za
     clear HB
     clear h0_ h1_ h2_ h3_ h4_ h5_ h6_ h7_ h8_ h9_ h10_
     have zf := n0_
     have zg := n1_
     have zv := n2_
     have zw := n3_
     have za := n4_
     have zj := n5_
     have zi := n6_
     have zk := n7_
     have zb := n8_
     have zh := n9_
     have HB := n10_
     clear n0_ n1_ n2_ n3_ n4_ n5_ n6_ n7_ n8_ n9_ n10_
     have hHeld : w42.cell? ⟨zc, 0, none⟩ = some (.int .i64 a1_0) ∧ w42.cell? ⟨zc, 1, none⟩ = some (.int .i64 a1_1) ∧ w42.cell? ⟨zc, 2, none⟩ = some (.int .i64 a1_2) ∧ w42.cell? ⟨zc, 3, none⟩ = some (.int .i64 a1_3) ∧ w42.cell? ⟨zc, 4, none⟩ = some (.int .i64 a1_4) ∧ w42.cell? ⟨zc, 5, none⟩ = some (.int .i64 a1_5) ∧ w42.cell? ⟨zc, 6, none⟩ = some (.int .i64 a1_6) ∧ w42.cell? ⟨zc, 7, none⟩ = some (.int .i64 a1_7) ∧ w42.cell? ⟨zc, 8, none⟩ = some (.bool a1_8) ∧ w42.cell? ⟨zc, 9, none⟩ = some (.slice A1_9 l1_9.length c1_9) ∧ w42.cell? ad346 = some (.slice A346_0 (rd_L1 l2 0).length c346_0) := hS_
     obtain ⟨Ao44, co44, za1⟩ := Kd.R_slice zv.out
     (first | subst za1 | (injection za1 with f1_ f2_ f3_; have f4_ := f1_.symm; have f5_ := f3_.symm; clear f1_ f2_ f3_; subst f4_; subst f5_))
     obtain ⟨Ao46, co46, za2⟩ := Kd.R_slice zw.out
     (first | subst za2 | (injection za2 with f1_ f2_ f3_; have f4_ := f1_.symm; have f5_ := f3_.symm; clear f1_ f2_ f3_; subst f4_; subst f5_))
     refine norm_ (a' := ?_) ?_ ?_
     rotate_left
     ·simp only [putAll, Act.put, sP]
      rfl
     refine one_ (i := 11) (N := none) (bm 13 4095) rfl rfl (one_of HT_.out (by kernel_rfl)) (by decide) (fun K hK => ?_)
     have hs43 : w42.cell? ⟨zd, 0, none⟩ = some (.int .i64 0) := (blk_cell zj.out 0).trans rfl
     have hfs43 := blk_frozen zj.out 0
     have hns43_0 := zb.out
     have hms43_0 := zh.out
     have hs45 : w42.cell? ⟨zd, 1, none⟩ = some (.slice none 0 0) := (blk_cell zj.out 1).trans rfl
     have hfs45 := blk_frozen zj.out 1
     have hns45_0 := zb.out
     have hms45_0 := zh.out
     have hs47 : w42.cell? ⟨zd, 2, none⟩ = some (.slice none 0 0) := (blk_cell zj.out 2).trans rfl
     have hfs47 := blk_frozen zj.out 2
     have hns47_0 := zb.out
     have hms47_0 := zh.out
     refine skip_ (w1 := ?_) (by rfl) rfl ?_ ?_
     rotate_left
     ·go_simp
      rfl
     refine hK.out _ _ ⟨((cell_far (p := ⟨zd, _, none⟩) zb.out _).trans (((cell_far (p := ⟨zd, _, none⟩) zb.out _).trans (((cell_far (p := ⟨zd, _, none⟩) zb.out _).trans (hHeld.1)))))), ((cell_far (p := ⟨zd, _, none⟩) zb.out _).trans (((cell_far (p := ⟨zd, _, none⟩) zb.out _).trans (((cell_far (p := ⟨zd, _, none⟩) zb.out _).trans (hHeld.2.1)))))), ((cell_far (p := ⟨zd, _, none⟩) zb.out _).trans (((cell_far (p := ⟨zd, _, none⟩) zb.out _).trans (((cell_far (p := ⟨zd, _, none⟩) zb.out _).trans (hHeld.2.2.1)))))), ((cell_far (p := ⟨zd, _, none⟩) zb.out _).trans (((cell_far (p := ⟨zd, _, none⟩) zb.out _).trans (((cell_far (p := ⟨zd, _, none⟩) zb.out _).trans (hHeld.2.2.2.1)))))), ((cell_far (p := ⟨zd, _, none⟩) zb.out _).trans (((cell_far (p := ⟨zd, _, none⟩) zb.out _).trans (((cell_far (p := ⟨zd, _, none⟩) zb.out _).trans (hHeld.2.2.2.2.1)))))), ((cell_far (p := ⟨zd, _, none⟩) zb.out _).trans (((cell_far (p := ⟨zd, _, none⟩) zb.out _).trans (((cell_far (p := ⟨zd, _, none⟩) zb.out _).trans (hHeld.2.2.2.2.2.1)))))), ((cell_far (p := ⟨zd, _, none⟩) zb.out _).trans (((cell_far (p := ⟨zd, _, none⟩) zb.out _).trans (((cell_far (p := ⟨zd, _, none⟩) zb.out _).trans (hHeld.2.2.2.2.2.2.1)))))), ((cell_far (p := ⟨zd, _, none⟩) zb.out _).trans (((cell_far (p := ⟨zd, _, none⟩) zb.out _).trans (((cell_far (p := ⟨zd, _, none⟩) zb.out _).trans (hHeld.2.2.2.2.2.2.2.1)))))), ((cell_far (p := ⟨zd, _, none⟩) zb.out _).trans (((cell_far (p := ⟨zd, _, none⟩) zb.out _).trans (((cell_far (p := ⟨zd, _, none⟩) zb.out _).trans (hHeld.2.2.2.2.2.2.2.2.1)))))), ((cell_far (p := ⟨zd, _, none⟩) zb.out _).trans (((cell_far (p := ⟨zd, _, none⟩) zb.out _).trans (((cell_far (p := ⟨zd, _, none⟩) zb.out _).trans (hHeld.2.2.2.2.2.2.2.2.2.1)))))), ((cell_far (p := ⟨zd, _, none⟩) (by first | exact Nat.ne_of_lt (Nat.lt_of_lt_of_le (by have := World.block_lt_of_cell? _ _ hw346_0; first | rwa [add_block] at this | exact this) zi.out) | (rw [add_block]; exact Nat.ne_of_lt (Nat.lt_of_lt_of_le (by have := World.block_lt_of_cell? _ _ hw346_0; first | rwa [add_block] at this | exact this) zi.out)) | (show (Addr.add _ _).block ≠ _; rw [add_block]; exact Nat.ne_of_lt (Nat.lt_of_lt_of_le (by have := World.block_lt_of_cell? _ _ hw346_0; first | rwa [add_block] at this | exact this) zi.out)) | (dsimp only; exact Nat.ne_of_lt (Nat.lt_of_lt_of_le (by have := World.block_lt_of_cell? _ _ hw346_0; first | rwa [add_block] at this | exact this) zi.out))) _).trans (((cell_far (p := ⟨zd, _, none⟩) (by first | exact Nat.ne_of_lt (Nat.lt_of_lt_of_le (by have := World.block_lt_of_cell? _ _ hw346_0; first | rwa [add_block] at this | exact this) zi.out) | (rw [add_block]; exact Nat.ne_of_lt (Nat.lt_of_lt_of_le (by have := World.block_lt_of_cell? _ _ hw346_0; first | rwa [add_block] at this | exact this) zi.out)) | (show (Addr.add _ _).block ≠ _; rw [add_block]; exact Nat.ne_of_lt (Nat.lt_of_lt_of_le (by have := World.block_lt_of_cell? _ _ hw346_0; first | rwa [add_block] at this | exact this) zi.out)) | (dsimp only; exact Nat.ne_of_lt (Nat.lt_of_lt_of_le (by have := World.block_lt_of_cell? _ _ hw346_0; first | rwa [add_block] at this | exact this) zi.out))) _).trans (((cell_far (p := ⟨zd, _, none⟩) (by first | exact Nat.ne_of_lt (Nat.lt_of_lt_of_le (by have := World.block_lt_of_cell? _ _ hw346_0; first | rwa [add_block] at this | exact this) zi.out) | (rw [add_block]; exact Nat.ne_of_lt (Nat.lt_of_lt_of_le (by have := World.block_lt_of_cell? _ _ hw346_0; first | rwa [add_block] at this | exact this) zi.out)) | (show (Addr.add _ _).block ≠ _; rw [add_block]; exact Nat.ne_of_lt (Nat.lt_of_lt_of_le (by have := World.block_lt_of_cell? _ _ hw346_0; first | rwa [add_block] at this | exact this) zi.out)) | (dsimp only; exact Nat.ne_of_lt (Nat.lt_of_lt_of_le (by have := World.block_lt_of_cell? _ _ hw346_0; first | rwa [add_block] at this | exact this) zi.out))) _).trans (hHeld.2.2.2.2.2.2.2.2.2.2))))))⟩ (fun hHeld => ?_)
     clear hK K
     refine pP (i := 12) (N := some 12) (bm 13 8191) rfl rfl HT_.out ?_
     refine done_ (done_of HT_.out (by kernel_rfl)) ?_
     have hnb48 := zh.out
     have hnc48 := zb.out
     obtain ⟨hcz49_0, hcz49_1, hcz49_2, hfz49_0, hfz49_1, hfz49_2⟩ := blk3 zj.out
     try go_wp2
     go_ret2
     exact ⟨_, pE, by (with_reducible repeat (first | apply rA | apply rN | apply rD)); exact F3 zv zj (fun _ hk => trivial), qB2 HB ze zk⟩
mutual
def walk_At.j0 : Nat → List Int → Int → Bool → Option (List Int × Bool)
 | 0, _, _, _ => none
 | k + 1, x0, x1, x15 => if x15 = true then (some (([] : List Int), false)) else (if 0 ≤ (x0.length : Int) then (if ((x0.length : Int) : Int).toNat ≤ 35184372088832 then (walk_At.l0 k x0 x1 (List.replicate ((x0.length : Int) : Int).toNat 0) (wrap64 ((x0.length : Int) - 1))) else (none)) else (none))
def walk_At.l0 : Nat → List Int → Int → List Int → Int → Option (List Int × Bool)
 | 0, _, _, _, _ => none
 | k + 1, x0, x1, x6, x7 => if x7 ≥ 0 then (if 0 ≤ x7 then (if x7 < (x0.length : Int) then (if (rd x0 x7) = 0 then (none) else (if x7 < (x6.length : Int) then (walk_At.l0 k x0 (wrap64 (Int.tdiv x1 (rd x0 x7))) (x6.set (x7 : Int).toNat (Int.tmod x1 (rd x0 x7))) (wrap64 (x7 - 1))) else (none))) else (none)) else (none)) else (some (x6, true))
end
def walk_At.f (k : Nat) (l0 : List Int) (a1 : Int) : Option (List Int × Bool) := if a1 < 0 then (walk_At.j0 k l0 a1 true) else ((shape_Count.f k l0).bind fun za => (walk_At.j0 k l0 a1 (decide (a1 ≥ za))))
set_option maxHeartbeats 8000000 in
set_option maxRecDepth 100000 in
theorem walk_At.calls (k : Nat) (A0 : Option Addr) (c0 : Nat) (l0 : List Int) (a1 : Int) (r1 : List Int) (r2 : Bool) (w : World) (hr0 : Kd.C (Kd.int .i64) w A0 l0.length l0) (hc0 : l0.length ≤ c0) (h : walk_At.f k l0 a1 = some (r1, r2)) :
  Calls Try.prog 39 #[.slice A0 l0.length c0, .int .i64 a1] w fun e w' => ∃ v0_ : Value, e = .returned (.tuple #[v0_, .bool r2]) ∧ Kd.R (Kd.int .i64) 3 w' w.heap.size (fun _ => True) v0_ r1 ∧ Below w.heap.size w w' := by
 have HR0 := aM hr0
 have HC0 := aM hc0
 clear hr0 hc0
 have HB := aM (Below.refl w.heap.size w)
 have H : (if a1 < 0 then (walk_At.j0 k l0 a1 true) else ((shape_Count.f k l0).bind fun za => (walk_At.j0 k l0 a1 (decide (a1 ≥ za))))) = some (r1, r2) := h
 clear h
 have HC3 := aM H
 clear H
 go_enter Try.func39, Try.ntmps39
 go_upto_region 1 with (fail)
 go_cut [15] (fun v15 wc => ∃ (kq : Nat) (x15_2 : Bool), v15 = .bool x15_2 ∧ Aside0 (walk_At.j0 kq l0 a1 x15_2 = some (r1, r2)) ∧ Aside0 (kq ≤ k) ∧ Aside0 (Below w.heap.size w wc))
 case first =>
  have H := HC3.out
  clear HC3
  by_cases c4 : a1 < 0
  ·rw [if_pos c4] at H
   have zc : decide (a1 < 0) = true := decide_eq_true c4
   clear c4
   (first | rw [zc] | (simp only [i64_w, i32_w]; rw [zc]) | skip)
   have H' := aM H
   clear H
   go_wp2
   go_meet
   case rel => exact ⟨_, (true), (pF), H', ⟨by first | omega | exact Nat.le_refl _⟩, ⟨qB HB⟩⟩
  rw [if_neg c4] at H
  have zc : decide (a1 < 0) = false := decide_eq_false c4
  clear c4
  (first | rw [zc] | (simp only [i64_w, i32_w]; rw [zc]) | skip)
  replace H := Option.bind_eq_some_iff.mp H
  obtain ⟨za, A50, H⟩ := H
  try dsimp only at H
  have A5 := aM A50
  clear A50
  have H' := aM H
  clear H
  go_wp2_with (first | (go_at_call 67; (with_reducible refine (shape_Count.calls k _ _ l0 za _ ?s1 ?s2 A5.out).mono ?_); (case s1 => exact sC HR0 HB); (case s2 => exact HC0.out); rintro e w' ⟨rfl, ⟨nd, rfl⟩⟩))
  go_meet
  case rel => exact ⟨_, (decide (a1 ≥ za)), (pF), H', ⟨by first | omega | exact Nat.le_refl _⟩, ⟨qB HB⟩⟩
 case rest =>
  clear HC3
  obtain ⟨kq, x15_2, rfl, HA, HJ2, HB⟩ := hcut
  cases kq with
  | zero => exact absurd HA.out (by simp [walk_At.j0])
  | succ kj2 =>
   have H := HA.out
   clear HA
   simp only [walk_At.j0] at H
   by_cases c6 : x15_2 = true
   ·subst c6
    rw [if_pos rfl] at H
    simp only [Option.some.injEq, Prod.mk.injEq] at H
    obtain ⟨rfl, rfl⟩ := H
    go_wp2
    go_ret2
    exact ⟨_, pE, pN, qB HB⟩
   replace c6 := Bool.eq_false_iff.mpr c6
   subst c6
   rw [if_neg (show ¬ (false = true) by decide)] at H
   by_cases c7 : 0 ≤ (l0.length : Int)
   rotate_left
   ·rw [if_neg c7] at H
    exact absurd H (by simp)
   rw [if_pos c7] at H
   have c7b0 := eq_true c7
   have c7b1 : decide (0 ≤ (l0.length : Int)) = true := decide_eq_true c7
   clear c7
   by_cases c8 : ((l0.length : Int) : Int).toNat ≤ 35184372088832
   rotate_left
   ·rw [if_neg c8] at H
    exact absurd H (by simp)
   rw [if_pos c8] at H
   have c8b0 := eq_true c8
   have c8b1 : decide (((l0.length : Int) : Int).toNat ≤ 35184372088832) = true := decide_eq_true c8
   clear c8
   obtain ⟨zh, zd⟩ : ∃ y_ : List Int, y_ = (List.replicate ((l0.length : Int) : Int).toNat 0) := ⟨_, rfl⟩
   replace H : (walk_At.l0 kj2 l0 a1 zh (wrap64 ((l0.length : Int) - 1))) = some (r1, r2) := pH zd H
   have zf := aM zd
   clear zd
   have H' := aM H
   clear H
   go_wp2_with (first | ((with_reducible refine gate_dst (N := 18) rfl ?_); refine Kd.R_make (Kd.int .i64) _ 3 rfl (N := 18) rfl 22 _ _ rfl (l0.length : Int) rfl rfl Try.underlying22 (.int .i64 0) 8 info3 rfl (by decide) (by omega) 0 (ok := fun _ => True) (okp := fun _ => True) rfl (fun _ hk => hk) trivial (of_decide_eq_true pD) (Nat.le_trans (Nat.mul_le_mul_right _ (of_decide_eq_true pD : (l0.length : Int).toNat ≤ 35184372088832)) (by omega)) (Below.refl _ _) (Nat.le_refl _) ?_; intro v365 w9 ho10 hb hg_ hnew_; clear hg_ hnew_; (first | rw [← zf.out] at ho10 | (simp only [Int.reduceToNat] at ho10; rw [← zf.out] at ho10)); have HO366 := aM (Kd.R_lower ho10 (below_size (qB HB))); replace HB := bS (qB HB) hb; clear hb ho10))
   go_loopg [1, 7] kj2 (fun kq v1 v7 w' => ∃ (x1_2 : Int) (x6_2 : List Int) (x7_2 : Int), v1 = .int .i64 x1_2 ∧ v7 = .int .i64 x7_2 ∧ Aside0 (walk_At.l0 kq l0 x1_2 x6_2 x7_2 = some (r1, r2)) ∧ Aside0 (kq ≤ kj2) ∧ Aside0 (Kd.R (Kd.int .i64) 3 w' w.heap.size (fun _ => True) v365 x6_2) ∧ Aside0 (Below w.heap.size w w'))
   case atStart => exact ⟨(a1), (zh), (wrap64 ((l0.length : Int) - 1)), (pF), (pF), H', ⟨Nat.le_refl _⟩, ⟨pR HO366.out⟩, ⟨qB HB⟩⟩
   case round =>
    clear H'
    try clear c6
    try clear c7b0
    try clear c7b1
    try clear c8b0
    try clear c8b1
    obtain ⟨x1_2, x6_2, x7_2, rfl, rfl, HA, HK2, zb, HB⟩ := hrel
    cases gk with
    | zero => exact absurd HA.out (by simp [walk_At.l0])
    | succ k2 =>
     have H := HA.out
     clear HA
     simp only [walk_At.l0] at H
     by_cases c11 : x7_2 ≥ 0
     rotate_left
     ·rw [if_neg c11] at H
      have c11b0 : decide (0 ≤ x7_2) = false := decide_eq_false c11
      clear c11
      simp only [Option.some.injEq, Prod.mk.injEq] at H
      obtain ⟨rfl, rfl⟩ := H
      go_wp2
      go_ret2
      exact ⟨_, pE, pR zb.out, qB HB⟩
     rw [if_pos c11] at H
     have c11b0 : decide (0 ≤ x7_2) = true := decide_eq_true c11
     clear c11
     by_cases c12 : 0 ≤ x7_2
     rotate_left
     ·rw [if_neg c12] at H
      exact absurd H (by simp)
     rw [if_pos c12] at H
     have c12b0 : decide (0 ≤ x7_2) = true := decide_eq_true c12
     clear c12
     by_cases c13 : x7_2 < (l0.length : Int)
     rotate_left
     ·rw [if_neg c13] at H
      exact absurd H (by simp)
     rw [if_pos c13] at H
     have c13b0 : decide (x7_2 < (l0.length : Int)) = true := decide_eq_true c13
     clear c13
     by_cases c14 : (rd l0 x7_2) = 0
     ·rw [if_pos c14] at H
      exact absurd H (by simp)
     rw [if_neg c14] at H
     have c14b0 : ((rd l0 x7_2) == 0) = false := beq_eq_false_iff_ne.mpr c14
     have c14b1 : ((rd l0 x7_2) != 0) = true := bne_iff_ne.mpr c14
     by_cases c15 : x7_2 < (x6_2.length : Int)
     rotate_left
     ·rw [if_neg c15] at H
      exact absurd H (by simp)
     rw [if_pos c15] at H
     have c15b0 : decide (x7_2 < (x6_2.length : Int)) = true := decide_eq_true c15
     clear c15
     obtain ⟨zg, ze⟩ : ∃ y_ : List Int, y_ = (x6_2.set (x7_2 : Int).toNat (Int.tmod x1_2 (rd l0 x7_2))) := ⟨_, rfl⟩
     replace H : (walk_At.l0 k2 l0 (wrap64 (Int.tdiv x1_2 (rd l0 x7_2))) zg (wrap64 (x7_2 - 1))) = some (r1, r2) := pH ze H
     have Ny368 := aM ze
     clear ze
     have H' := aM H
     clear H
     have p367 : 0 ≤ (x7_2 : Int) := of_decide_eq_true pD
     have q367 : x7_2 < (l0.length : Int) := of_decide_eq_true pD
     obtain ⟨ad367, e367, hx367_0⟩ := Kd.at_int HR0.out x7_2 p367 q367
     cases e367
     replace hx367_0 := (HB.out.cell (World.block_lt_of_cell? w _ hx367_0)).trans hx367_0
     replace p367 := eq_true p367
     replace q367 := eq_true q367
     have p16 : 0 ≤ (x7_2 : Int) := of_decide_eq_true pD
     have q16 : (x7_2 : Int) < ((x6_2.length : Int) : Int) := of_decide_eq_true pD
     obtain ⟨go16, co16, zi, zj, gl16, cl16, HG16⟩ := Kd.R_form zb.out (by omega)
     (first | cases zi | (injection zi with ea_ en_ ec_; (first | subst ea_ | (injection ea_ with ea_; subst ea_)); subst ec_; clear en_))
     have GB16 := aM zj
     have GG16 := aM HG16
     clear zj gl16 HG16
     obtain ⟨hx16_0, hf16_0⟩ := Kd.R_celln 0 zb.out (x7_2 : Int) p16 q16
     replace p16 := eq_true p16
     replace q16 := eq_true q16
     have HP17 := Kd.R_putg zb.out (x7_2 : Int) (Int.tmod x1_2 (rd l0 x7_2))
     go_wp2_with (first | ((with_reducible refine gate_store (t := 3) (p := 34) rfl ?_); refine store_event (t := 3) (p := 34) (v := ?vo_w18) (w1 := (wr.setCell ⟨go16, (x7_2 : Int).toNat, none⟩ (.int .i64 (Int.tmod x1_2 (rd l0 x7_2))))) ?hg ?ho ?hn ?hr ?_; (case ho => rfl); (case hg => rfl); (case hn => rfl); (case hr => first | (go_simp; done) | (go_simp; rfl)); intro w18 hw; have hg : wr.grownBy w18 (some go16) := (by rw [hw]; exact HP17.2); have hp_ : Kd.R (Kd.int .i64) 3 w18 w.heap.size (fun _ => True) (.slice (some ⟨go16, 0, none⟩) x6_2.length co16) zg := (by rw [hw, Ny368.out]; exact HP17.1); clear HP17; replace zb := aM (hp_); replace HB := aM ((by rw [hw]; exact below_set (HB.out) GB16.out : Below w.heap.size w w18)); clear hg hw hp_; have p369 : 0 ≤ (x7_2 : Int) := of_decide_eq_true pD; have q369 : x7_2 < (l0.length : Int) := of_decide_eq_true pD; obtain ⟨ad369, e369, hx369_0⟩ := Kd.at_int HR0.out x7_2 p369 q369; obtain rfl : ad367 = ad369 := (by injection e369); replace hx369_0 := (HB.out.cell (World.block_lt_of_cell? w _ hx369_0)).trans hx369_0; replace p369 := eq_true p369; replace q369 := eq_true q369))
     go_roundg k2
     case measure => have := HJ2.out; have := HK2.out; omega
     case rel => exact ⟨(wrap64 (Int.tdiv x1_2 (rd l0 x7_2))), (zg), (wrap64 (x7_2 - 1)), (pF), (pF), H', ⟨by have := HJ2.out; have := HK2.out; omega⟩, ⟨pR zb.out⟩, ⟨qB HB⟩⟩
mutual
def walk_in.j0 : Nat → List Int → List Int → Bool → Option (Bool)
 | 0, _, _, _ => none
 | k + 1, x0, x1, x16 => if x16 = true then (some false) else (walk_in.l0 k x0 x1 (x1.length : Int) 0)
def walk_in.l0 : Nat → List Int → List Int → Int → Int → Option (Bool)
 | 0, _, _, _, _ => none
 | k + 1, x0, x17, x18, x19 => if x19 < x18 then (if 0 ≤ x19 then (if x19 < (x17.length : Int) then (if (rd x17 x19) < 0 then (some false) else (if x19 < (x0.length : Int) then (if (rd x17 x19) ≥ (rd x0 x19) then (some false) else (walk_in.l0 k x0 x17 x18 (wrap64 (x19 + 1)))) else (none))) else (none)) else (none)) else (some true)
end
def walk_in.f (k : Nat) (l0 : List Int) (l1 : List Int) : Option (Bool) := (shape_Check.f l0).bind fun za => (if za = 0 then (walk_in.j0 k l0 l1 ((l1.length : Int) != (l0.length : Int))) else (walk_in.j0 k l0 l1 true))
set_option maxHeartbeats 8000000 in
set_option maxRecDepth 100000 in
theorem walk_in.calls (k : Nat) (A0 : Option Addr) (c0 : Nat) (l0 : List Int) (A1 : Option Addr) (c1 : Nat) (l1 : List Int) (r : Bool) (w : World) (hr0 : Kd.C (Kd.int .i64) w A0 l0.length l0) (hc0 : l0.length ≤ c0) (hr1 : Kd.C (Kd.int .i64) w A1 l1.length l1) (hc1 : l1.length ≤ c1) (h : walk_in.f k l0 l1 = some r) :
  Calls Try.prog 69 #[.slice A0 l0.length c0, .slice A1 l1.length c1] w fun e w' => e = .returned (.bool r) ∧ Drawn0 w w' := by
 have HR0 := aM hr0
 have HC0 := aM hc0
 clear hr0 hc0
 have HR1 := aM hr1
 have HC1 := aM hc1
 clear hr1 hc1
 have H : ((shape_Check.f l0).bind fun za => (if za = 0 then (walk_in.j0 k l0 l1 ((l1.length : Int) != (l0.length : Int))) else (walk_in.j0 k l0 l1 true))) = some r := h
 clear h
 have HC3 := aM H
 clear H
 go_enter Try.func69, Try.ntmps69
 go_upto_region 1 with (fail)
 go_cut [16] (fun v16 wc => ∃ (kq : Nat) (x16_2 : Bool), v16 = .bool x16_2 ∧ Aside0 (walk_in.j0 kq l0 l1 x16_2 = some r) ∧ Aside0 (kq ≤ k) ∧ Drawn0 w wc)
 case first =>
  have H := HC3.out
  clear HC3
  replace H := Option.bind_eq_some_iff.mp H
  obtain ⟨za, A40, H⟩ := H
  try dsimp only at H
  have A4 := aM A40
  clear A40
  by_cases c5 : za = 0
  rotate_left
  ·rw [if_neg c5] at H
   have zb : (za == 0) = false := beq_eq_false_iff_ne.mpr c5
   have c5b1 : (za != 0) = true := bne_iff_ne.mpr c5
   (first | rw [zb] | (simp only [i64_w, i32_w]; rw [zb]) | skip)
   have H' := aM H
   clear H
   go_wp2_with (first | ((with_reducible refine gate_callee (f := 31) rfl ?_); refine goesL_ (some 8) rfl rfl Try.func31 (by kernel_rfl) rfl #[.slice A0 l0.length c0] rfl pA ?_; (with_reducible refine (shape_Check.calls _ _ l0 za _ ?s1 ?s2 A4.out).mono ?_); (case s1 => exact pC HR0.out); (case s2 => exact HC0.out); rintro e w' ⟨rfl, ⟨nd, rfl⟩⟩; refine ⟨_, rfl, ?_⟩))
   go_meet
   case rel => exact ⟨_, (true), (pF), H', ⟨by first | omega | exact Nat.le_refl _⟩, by repeat (first | exact Drawn0.refl _ | apply Drawn0.step)⟩
  rw [if_pos c5] at H
  have zb : (za == 0) = true := beq_iff_eq.mpr c5
  have c5b1 : (za != 0) = false := bne_eq_false_iff_eq.mpr c5
  clear c5
  (first | rw [zb] | (simp only [i64_w, i32_w]; rw [zb]) | skip)
  have H' := aM H
  clear H
  go_wp2_with (first | ((with_reducible refine gate_callee (f := 31) rfl ?_); refine goesL_ (some 8) rfl rfl Try.func31 (by kernel_rfl) rfl #[.slice A0 l0.length c0] rfl pA ?_; (with_reducible refine (shape_Check.calls _ _ l0 za _ ?s1 ?s2 A4.out).mono ?_); (case s1 => exact pC HR0.out); (case s2 => exact HC0.out); rintro e w' ⟨rfl, ⟨nd, rfl⟩⟩; refine ⟨_, rfl, ?_⟩))
  go_meet
  case rel => exact ⟨_, (((l1.length : Int) != (l0.length : Int))), (pF), H', ⟨by first | omega | exact Nat.le_refl _⟩, by repeat (first | exact Drawn0.refl _ | apply Drawn0.step)⟩
 case rest =>
  clear HC3
  try clear c1
  obtain ⟨kq, x16_2, rfl, HA, HJ2, ⟨mc2, rfl⟩⟩ := hcut
  cases kq with
  | zero => exact absurd HA.out (by simp [walk_in.j0])
  | succ kj2 =>
   have H := HA.out
   clear HA
   simp only [walk_in.j0] at H
   by_cases c6 : x16_2 = true
   ·subst c6
    rw [if_pos rfl] at H
    obtain rfl := Option.some.inj H
    go_wp2
    go_ret
    exact ⟨pF, by repeat (first | exact Drawn0.refl _ | apply Drawn0.step)⟩
   replace c6 := Bool.eq_false_iff.mpr c6
   subst c6
   rw [if_neg (show ¬ (false = true) by decide)] at H
   have H' := aM H
   clear H
   go_wp2
   go_loopg [19] kj2 (fun kq v19 w' => ∃ (x19_2 : Int), v19 = .int .i64 x19_2 ∧ Aside0 (walk_in.l0 kq l0 l1 (l1.length : Int) x19_2 = some r) ∧ Aside0 (kq ≤ kj2) ∧ Drawn0 w w')
   case atStart => exact ⟨(0), (pF), H', ⟨Nat.le_refl _⟩, by repeat (first | exact Drawn0.refl _ | apply Drawn0.step)⟩
   case round =>
    clear H'
    try clear c6
    obtain ⟨x19_2, rfl, HA, HK2, ⟨m2, rfl⟩⟩ := hrel
    cases gk with
    | zero => exact absurd HA.out (by simp [walk_in.l0])
    | succ k2 =>
     have H := HA.out
     clear HA
     simp only [walk_in.l0] at H
     by_cases c7 : x19_2 < (l1.length : Int)
     rotate_left
     ·rw [if_neg c7] at H
      have c7b0 : decide (x19_2 < (l1.length : Int)) = false := decide_eq_false c7
      clear c7
      obtain rfl := Option.some.inj H
      go_wp2
      go_ret
      exact ⟨pF, by repeat (first | exact Drawn0.refl _ | apply Drawn0.step)⟩
     rw [if_pos c7] at H
     have c7b0 : decide (x19_2 < (l1.length : Int)) = true := decide_eq_true c7
     clear c7
     by_cases c8 : 0 ≤ x19_2
     rotate_left
     ·rw [if_neg c8] at H
      exact absurd H (by simp)
     rw [if_pos c8] at H
     have c8b0 : decide (0 ≤ x19_2) = true := decide_eq_true c8
     clear c8
     by_cases c9 : x19_2 < (l1.length : Int)
     rotate_left
     ·rw [if_neg c9] at H
      exact absurd H (by simp)
     rw [if_pos c9] at H
     have c9b0 : decide (x19_2 < (l1.length : Int)) = true := decide_eq_true c9
     clear c9
     by_cases c10 : (rd l1 x19_2) < 0
     ·rw [if_pos c10] at H
      have c10b0 : decide ((rd l1 x19_2) < 0) = true := decide_eq_true c10
      clear c10
      obtain rfl := Option.some.inj H
      have p371 : 0 ≤ (x19_2 : Int) := of_decide_eq_true pD
      have q371 : x19_2 < (l1.length : Int) := of_decide_eq_true pD
      obtain ⟨ad371, e371, hx371_0⟩ := Kd.at_int HR1.out x19_2 p371 q371
      cases e371
      replace p371 := eq_true p371
      replace q371 := eq_true q371
      go_wp2
      go_ret
      exact ⟨pF, by repeat (first | exact Drawn0.refl _ | apply Drawn0.step)⟩
     rw [if_neg c10] at H
     have c10b0 : decide ((rd l1 x19_2) < 0) = false := decide_eq_false c10
     clear c10
     by_cases c11 : x19_2 < (l0.length : Int)
     rotate_left
     ·rw [if_neg c11] at H
      exact absurd H (by simp)
     rw [if_pos c11] at H
     have c11b0 : decide (x19_2 < (l0.length : Int)) = true := decide_eq_true c11
     clear c11
     by_cases c12 : (rd l1 x19_2) ≥ (rd l0 x19_2)
     ·rw [if_pos c12] at H
      have c12b0 : decide ((rd l0 x19_2) ≤ (rd l1 x19_2)) = true := decide_eq_true c12
      clear c12
      obtain rfl := Option.some.inj H
      have p371 : 0 ≤ (x19_2 : Int) := of_decide_eq_true pD
      have q371 : x19_2 < (l1.length : Int) := of_decide_eq_true pD
      obtain ⟨ad371, e371, hx371_0⟩ := Kd.at_int HR1.out x19_2 p371 q371
      cases e371
      replace p371 := eq_true p371
      replace q371 := eq_true q371
      have p372 : 0 ≤ (x19_2 : Int) := of_decide_eq_true pD
      have q372 : x19_2 < (l0.length : Int) := of_decide_eq_true pD
      obtain ⟨ad372, e372, hx372_0⟩ := Kd.at_int HR0.out x19_2 p372 q372
      cases e372
      replace p372 := eq_true p372
      replace q372 := eq_true q372
      go_wp2
      go_ret
      exact ⟨pF, by repeat (first | exact Drawn0.refl _ | apply Drawn0.step)⟩
     rw [if_neg c12] at H
     have c12b0 : decide ((rd l0 x19_2) ≤ (rd l1 x19_2)) = false := decide_eq_false c12
     clear c12
     have H' := aM H
     clear H
     have p371 : 0 ≤ (x19_2 : Int) := of_decide_eq_true pD
     have q371 : x19_2 < (l1.length : Int) := of_decide_eq_true pD
     obtain ⟨ad371, e371, hx371_0⟩ := Kd.at_int HR1.out x19_2 p371 q371
     cases e371
     replace p371 := eq_true p371
     replace q371 := eq_true q371
     have p372 : 0 ≤ (x19_2 : Int) := of_decide_eq_true pD
     have q372 : x19_2 < (l0.length : Int) := of_decide_eq_true pD
     obtain ⟨ad372, e372, hx372_0⟩ := Kd.at_int HR0.out x19_2 p372 q372
     cases e372
     replace p372 := eq_true p372
     replace q372 := eq_true q372
     go_wp2
     go_roundg k2
     case measure => have := HJ2.out; have := HK2.out; omega
     case rel => exact ⟨(wrap64 (x19_2 + 1)), (pF), H', ⟨by have := HJ2.out; have := HK2.out; omega⟩, by repeat (first | exact Drawn0.refl _ | apply Drawn0.step)⟩
def walk_Place.l0 : Nat → List Int → Int → List Int → Int → Int → Option (Int × Bool)
 | 0, _, _, _, _, _ => none
 | k + 1, x0, x6, x13, x14, x15 => if x15 < x14 then (if 0 ≤ x15 then (if x15 < (x13.length : Int) then (if x15 < (x0.length : Int) then (walk_Place.l0 k x0 (wrap64 ((wrap64 (x6 * (rd x0 x15))) + (rd x13 x15))) x13 x14 (wrap64 (x15 + 1))) else (none)) else (none)) else (none)) else (some (x6, true))
def walk_Place.f (k : Nat) (l0 : List Int) (l1 : List Int) : Option (Int × Bool) := (walk_in.f k l0 l1).bind fun za => (if za = true then (walk_Place.l0 k l0 0 l1 (l1.length : Int) 0) else (some (0, false)))
set_option maxHeartbeats 8000000 in
set_option maxRecDepth 100000 in
theorem walk_Place.calls (k : Nat) (A0 : Option Addr) (c0 : Nat) (l0 : List Int) (A1 : Option Addr) (c1 : Nat) (l1 : List Int) (r1 : Int) (r2 : Bool) (w : World) (hr0 : Kd.C (Kd.int .i64) w A0 l0.length l0) (hc0 : l0.length ≤ c0) (hr1 : Kd.C (Kd.int .i64) w A1 l1.length l1) (hc1 : l1.length ≤ c1) (h : walk_Place.f k l0 l1 = some (r1, r2)) :
  Calls Try.prog 41 #[.slice A0 l0.length c0, .slice A1 l1.length c1] w fun e w' => e = .returned (.tuple #[.int .i64 r1, .bool r2]) ∧ Drawn0 w w' := by
 have HR0 := aM hr0
 have HC0 := aM hc0
 clear hr0 hc0
 have HR1 := aM hr1
 have HC1 := aM hc1
 clear hr1 hc1
 have H : ((walk_in.f k l0 l1).bind fun za => (if za = true then (walk_Place.l0 k l0 0 l1 (l1.length : Int) 0) else (some (0, false)))) = some (r1, r2) := h
 clear h
 replace H := Option.bind_eq_some_iff.mp H
 obtain ⟨za, A30, H⟩ := H
 try dsimp only at H
 have A3 := aM A30
 clear A30
 by_cases c4 : za = true
 rotate_left
 ·replace c4 := Bool.eq_false_iff.mpr c4
  subst c4
  rw [if_neg (show ¬ (false = true) by decide)] at H
  simp only [Option.some.injEq, Prod.mk.injEq] at H
  obtain ⟨rfl, rfl⟩ := H
  go_enter Try.func41, Try.ntmps41
  go_wp2_with (first | ((with_reducible refine gate_callee (f := 69) rfl ?_); refine goesL_ (some 11) rfl rfl Try.func69 (by kernel_rfl) rfl #[.slice A0 l0.length c0, .slice A1 l1.length c1] rfl pA ?_; (with_reducible refine (walk_in.calls k _ _ l0 _ _ l1 false _ ?s1 ?s2 ?s3 ?s4 A3.out).mono ?_); (case s1 => exact pC HR0.out); (case s2 => exact HC0.out); (case s3 => exact pC HR1.out); (case s4 => exact HC1.out); rintro e w' ⟨rfl, ⟨nd, rfl⟩⟩; refine ⟨_, rfl, ?_⟩))
  go_ret2
  exact ⟨pF, by repeat (first | exact Drawn0.refl _ | apply Drawn0.step)⟩
 subst c4
 rw [if_pos rfl] at H
 have H' := aM H
 clear H
 go_enter Try.func41, Try.ntmps41
 go_wp2_with (first | ((with_reducible refine gate_callee (f := 69) rfl ?_); refine goesL_ (some 11) rfl rfl Try.func69 (by kernel_rfl) rfl #[.slice A0 l0.length c0, .slice A1 l1.length c1] rfl pA ?_; (with_reducible refine (walk_in.calls k _ _ l0 _ _ l1 true _ ?s1 ?s2 ?s3 ?s4 A3.out).mono ?_); (case s1 => exact pC HR0.out); (case s2 => exact HC0.out); (case s3 => exact pC HR1.out); (case s4 => exact HC1.out); rintro e w' ⟨rfl, ⟨nd, rfl⟩⟩; refine ⟨_, rfl, ?_⟩))
 go_loopg [6, 15] k (fun kq v6 v15 w' => ∃ (x6_1 : Int) (x15_1 : Int), v6 = .int .i64 x6_1 ∧ v15 = .int .i64 x15_1 ∧ Aside0 (walk_Place.l0 kq l0 x6_1 l1 (l1.length : Int) x15_1 = some (r1, r2)) ∧ Aside0 (kq ≤ k) ∧ Drawn0 w w')
 case atStart => exact ⟨(0), (0), (pF), (pF), H', ⟨Nat.le_refl _⟩, by repeat (first | exact Drawn0.refl _ | apply Drawn0.step)⟩
 case round =>
  clear H'
  try clear c1
  try clear c4
  obtain ⟨x6_1, x15_1, rfl, rfl, HA, HK1, ⟨m1, rfl⟩⟩ := hrel
  cases gk with
  | zero => exact absurd HA.out (by simp [walk_Place.l0])
  | succ k1 =>
   have H := HA.out
   clear HA
   simp only [walk_Place.l0] at H
   by_cases c5 : x15_1 < (l1.length : Int)
   rotate_left
   ·rw [if_neg c5] at H
    have c5b0 : decide (x15_1 < (l1.length : Int)) = false := decide_eq_false c5
    clear c5
    simp only [Option.some.injEq, Prod.mk.injEq] at H
    obtain ⟨rfl, rfl⟩ := H
    go_wp2
    go_ret2
    exact ⟨pF, by repeat (first | exact Drawn0.refl _ | apply Drawn0.step)⟩
   rw [if_pos c5] at H
   have c5b0 : decide (x15_1 < (l1.length : Int)) = true := decide_eq_true c5
   clear c5
   by_cases c6 : 0 ≤ x15_1
   rotate_left
   ·rw [if_neg c6] at H
    exact absurd H (by simp)
   rw [if_pos c6] at H
   have c6b0 : decide (0 ≤ x15_1) = true := decide_eq_true c6
   clear c6
   by_cases c7 : x15_1 < (l1.length : Int)
   rotate_left
   ·rw [if_neg c7] at H
    exact absurd H (by simp)
   rw [if_pos c7] at H
   have c7b0 : decide (x15_1 < (l1.length : Int)) = true := decide_eq_true c7
   clear c7
   by_cases c8 : x15_1 < (l0.length : Int)
   rotate_left
   ·rw [if_neg c8] at H
    exact absurd H (by simp)
   rw [if_pos c8] at H
   have c8b0 : decide (x15_1 < (l0.length : Int)) = true := decide_eq_true c8
   clear c8
   have H' := aM H
   clear H
   have p374 : 0 ≤ (x15_1 : Int) := of_decide_eq_true pD
   have q374 : x15_1 < (l1.length : Int) := of_decide_eq_true pD
   obtain ⟨ad374, e374, hx374_0⟩ := Kd.at_int HR1.out x15_1 p374 q374
   cases e374
   replace p374 := eq_true p374
   replace q374 := eq_true q374
   have p375 : 0 ≤ (x15_1 : Int) := of_decide_eq_true pD
   have q375 : x15_1 < (l0.length : Int) := of_decide_eq_true pD
   obtain ⟨ad375, e375, hx375_0⟩ := Kd.at_int HR0.out x15_1 p375 q375
   cases e375
   replace p375 := eq_true p375
   replace q375 := eq_true q375
   go_wp2
   go_roundg k1
   case measure => have := HK1.out; omega
   case rel => exact ⟨(wrap64 ((wrap64 (x6_1 * (rd l0 x15_1))) + (rd l1 x15_1))), (wrap64 (x15_1 + 1)), (pF), (pF), H', ⟨by have := HK1.out; omega⟩, by repeat (first | exact Drawn0.refl _ | apply Drawn0.step)⟩
mutual
def spread_Source.j0 : Nat → List Int → List Int → List Int → Bool → Option (Int × Bool)
 | 0, _, _, _, _ => none
 | k + 1, x0, x1, x8, x25 => if x25 = true then (some (0, false)) else (if 0 ≤ (wrap64 ((x1.length : Int) - (x0.length : Int))) then (if (wrap64 ((x1.length : Int) - (x0.length : Int))) ≤ (x8.length : Int) then (spread_Source.l0 k x0 (x8.drop ((wrap64 ((x1.length : Int) - (x0.length : Int))) : Int).toNat) x0 (x0.length : Int) 0) else (none)) else (none))
def spread_Source.l0 : Nat → List Int → List Int → List Int → Int → Int → Option (Int × Bool)
 | 0, _, _, _, _, _ => none
 | k + 1, x0, x8, x33, x34, x35 => if x35 < x34 then (if 0 ≤ x35 then (if x35 < (x33.length : Int) then (if (rd x33 x35) = 1 then (if x35 < (x8.length : Int) then (spread_Source.l0 k x0 (x8.set (x35 : Int).toNat 0) x33 x34 (wrap64 (x35 + 1))) else (none)) else (spread_Source.l0 k x0 x8 x33 x34 (wrap64 (x35 + 1)))) else (none)) else (none)) else ((walk_Place.f k x0 x8).bind fun bt386 => (some (bt386.1, bt386.2)))
end
def spread_Source.f (k : Nat) (l0 : List Int) (l1 : List Int) (a2 : Int) : Option (Int × Bool) := (walk_At.f k l1 a2).bind fun bt376 => (if bt376.2 = true then ((spread_Fits.f k l0 l1).bind fun ze => (spread_Source.j0 k l0 l1 bt376.1 (!ze))) else (spread_Source.j0 k l0 l1 bt376.1 true))
set_option maxHeartbeats 8000000 in
set_option maxRecDepth 100000 in
theorem spread_Source.calls (k : Nat) (A0 : Option Addr) (c0 : Nat) (l0 : List Int) (A1 : Option Addr) (c1 : Nat) (l1 : List Int) (a2 : Int) (r1 : Int) (r2 : Bool) (w : World) (hr0 : Kd.C (Kd.int .i64) w A0 l0.length l0) (hc0 : l0.length ≤ c0) (hr1 : Kd.C (Kd.int .i64) w A1 l1.length l1) (hc1 : l1.length ≤ c1) (h : spread_Source.f k l0 l1 a2 = some (r1, r2)) :
  Calls Try.prog 68 #[.slice A0 l0.length c0, .slice A1 l1.length c1, .int .i64 a2] w fun e w' => e = .returned (.tuple #[.int .i64 r1, .bool r2]) ∧ Below w.heap.size w w' := by
 have HR0 := aM hr0
 have HC0 := aM hc0
 clear hr0 hc0
 have HR1 := aM hr1
 have HC1 := aM hc1
 clear hr1 hc1
 have HB := aM (Below.refl w.heap.size w)
 have H : ((walk_At.f k l1 a2).bind fun bt376 => (if bt376.2 = true then ((spread_Fits.f k l0 l1).bind fun ze => (spread_Source.j0 k l0 l1 bt376.1 (!ze))) else (spread_Source.j0 k l0 l1 bt376.1 true))) = some (r1, r2) := h
 clear h
 replace H := Option.bind_eq_some_iff.mp H
 obtain ⟨⟨zb, zn⟩, A40, H⟩ := H
 try dsimp only at H
 have A4 := aM A40
 clear A40
 have HC5 := aM H
 clear H
 go_enter Try.func68, Try.ntmps68
 go_upto_region 2 with (first | ((with_reducible refine gate_callee (f := 39) rfl ?_); refine goesL_ (some 15) rfl rfl Try.func39 (by kernel_rfl) rfl #[.slice A1 l1.length c1, .int .i64 a2] rfl pA ?_; (with_reducible refine (walk_At.calls k _ _ l1 a2 zb zn _ ?s1 ?s2 A4.out).mono ?_); (case s1 => exact pC HR1.out); (case s2 => exact HC1.out); rintro e w6 ⟨v378, rfl, ho0, hb⟩; refine ⟨_, rfl, ?_⟩; have zd := aM (Kd.R_lower ho0 (below_size (qB HB))); replace HB := bS (qB HB) hb; (try clear hb); (try clear hk); (try clear hi); (try clear ho0)))
 (try simp only [Act.put, sP])
 go_cut [25] (fun v25 wc => ∃ (kq : Nat) (x25_4 : Bool), v25 = .bool x25_4 ∧ Aside0 (spread_Source.j0 kq l0 l1 zb x25_4 = some (r1, r2)) ∧ Aside0 (kq ≤ k) ∧ Aside0 (Kd.Q (Kd.int .i64) 3 wc w.heap.size (fun _ => True) v378 zb) ∧ Aside0 (Below w.heap.size w wc))
 case first =>
  have H := HC5.out
  clear HC5
  by_cases c7 : zn = true
  rotate_left
  ·replace c7 := Bool.eq_false_iff.mpr c7
   subst c7
   rw [if_neg (show ¬ (false = true) by decide)] at H
   have H' := aM H
   clear H
   go_wp2
   go_meet
   case rel => exact ⟨_, (true), (pF), H', ⟨by first | omega | exact Nat.le_refl _⟩, ⟨Kd.Q_of_R (pR zd.out)⟩, ⟨qB HB⟩⟩
  subst c7
  rw [if_pos rfl] at H
  replace H := Option.bind_eq_some_iff.mp H
  obtain ⟨ze, A80, H⟩ := H
  try dsimp only at H
  have A8 := aM A80
  clear A80
  have H' := aM H
  clear H
  go_wp2_with (first | (go_at_call 73; (with_reducible refine (spread_Fits.calls k _ _ l0 _ _ l1 ze _ ?s1 ?s2 ?s3 ?s4 A8.out).mono ?_); (case s1 => exact sC HR0 HB); (case s2 => exact HC0.out); (case s3 => exact sC HR1 HB); (case s4 => exact HC1.out); rintro e w9 ⟨rfl, hb⟩; replace zd := bR zd hb; replace HB := bS (qB HB) hb; (try clear hb); (try clear hk); (try clear hi)))
  go_meet
  case rel => exact ⟨_, (!ze), (pF), H', ⟨by first | omega | exact Nat.le_refl _⟩, ⟨Kd.Q_of_R (pR zd.out)⟩, ⟨qB HB⟩⟩
 case rest =>
  clear HC5
  try clear c1
  obtain ⟨kq, x25_4, rfl, HA, HJ4, za, HB⟩ := hcut
  cases kq with
  | zero => exact absurd HA.out (by simp [spread_Source.j0])
  | succ kj4 =>
   have H := HA.out
   clear HA
   simp only [spread_Source.j0] at H
   by_cases c10 : x25_4 = true
   ·subst c10
    rw [if_pos rfl] at H
    simp only [Option.some.injEq, Prod.mk.injEq] at H
    obtain ⟨rfl, rfl⟩ := H
    go_wp2
    go_ret2
    exact ⟨pE, qB HB⟩
   replace c10 := Bool.eq_false_iff.mpr c10
   subst c10
   rw [if_neg (show ¬ (false = true) by decide)] at H
   obtain ⟨ji11, hji11⟩ : ∃ j_ : Int, (wrap64 ((l1.length : Int) - (l0.length : Int))) = j_ := ⟨_, rfl⟩
   replace H : (if 0 ≤ (ji11) then (if (ji11) ≤ (zb.length : Int) then (spread_Source.l0 kj4 l0 (zb.drop ((ji11) : Int).toNat) l0 (l0.length : Int) 0) else (none)) else (none)) = some (r1, r2) := by first | (rw [hji11] at H; exact H) | (simp only [hji11] at H ⊢; exact H)
   have hji11w : (IntKind.i64.wrap ((l1.length : Int) - (l0.length : Int))) = ji11 := (i64_w _).trans hji11
   by_cases c12 : 0 ≤ (ji11)
   rotate_left
   ·rw [if_neg c12] at H
    exact absurd H (by simp)
   rw [if_pos c12] at H
   have c12b0 := eq_true c12
   have c12b1 : decide (0 ≤ (ji11)) = true := decide_eq_true c12
   clear c12
   by_cases c13 : (ji11) ≤ (zb.length : Int)
   rotate_left
   ·rw [if_neg c13] at H
    exact absurd H (by simp)
   rw [if_pos c13] at H
   have c13b0 := eq_true c13
   have c13b1 : decide ((ji11) ≤ (zb.length : Int)) = true := decide_eq_true c13
   clear c13
   obtain ⟨zc, zf⟩ : ∃ y_ : List Int, y_ = (zb.drop ((ji11) : Int).toNat) := ⟨_, rfl⟩
   replace H : (spread_Source.l0 kj4 l0 zc l0 (l0.length : Int) 0) = some (r1, r2) := pH zf H
   have zk := aM zf
   clear zf
   have H' := aM H
   clear H
   obtain ⟨zg, zj, eo14, _⟩ := Kd.Q_slice za.out
   subst eo14
   have q15 : ((ji11) : Int) ≤ ((zb.length : Int) : Int) := of_decide_eq_true pD
   obtain ⟨i015, hi015, _, hsz15, _⟩ := info_parts info3
   have hcut15 := cut_from (P := Try.prog) 22 3 .i64 Try.underlying22 hi015 1 hsz15 zg zb.length zj (ji11) (of_decide_eq_true pD) q15
   have hr15 := Kd.Q_drop (k := ((ji11) : Int).toNat) za.out (by omega)
   obtain ⟨A15, hA15⟩ : ∃ A1, A1 = (if zj = ((ji11) : Int).toNat then zg else (zg : Option Addr).map (·.add (((ji11) : Int).toNat * 1))) := ⟨_, rfl⟩
   obtain ⟨c15, hc15⟩ : ∃ c1, c1 = zj - ((ji11) : Int).toNat := ⟨_, rfl⟩
   have zl : zc.length = zb.length - ((ji11) : Int).toNat := (by rw [zk.out, List.length_drop])
   rw [← zk.out] at hr15
   rw [← zl, ← hA15, ← hc15] at hcut15
   replace hr15 : Kd.Q (Kd.int .i64) 3 wc w.heap.size (fun _ => True) (.slice A15 zc.length c15) zc := (by rw [hA15, hc15, zl]; exact hr15)
   have HE15 : Aside0 ((Value.slice A15 zc.length c15).ownBlock = (.slice zg zb.length zj : Value).ownBlock) := ⟨by rw [hA15]; split <;> (cases (zg : Option Addr) <;> first | rfl | (simp only [Value.ownBlock, Option.map]; unfold Addr.add; split <;> rfl))⟩
   clear zl hi015 hsz15 za hA15 hc15
   have HO383 := aM hr15
   clear hr15
   replace q15 := eq_true q15
   go_wp2
   go_loopg [35] kj4 (fun kq v35 w' => ∃ (x8_2 : List Int) (x35_2 : Int), v35 = .int .i64 x35_2 ∧ Aside0 (spread_Source.l0 kq l0 x8_2 l0 (l0.length : Int) x35_2 = some (r1, r2)) ∧ Aside0 (kq ≤ kj4) ∧ Aside0 (Kd.Q (Kd.int .i64) 3 w' w.heap.size (fun _ => True) (.slice A15 zc.length c15) x8_2) ∧ Aside0 (Below w.heap.size w w'))
   case atStart => exact ⟨(zc), (0), (pF), H', ⟨Nat.le_refl _⟩, ⟨by (with_reducible repeat (first | apply Kd.Q_alloc | apply Kd.Q_drewN | apply Kd.Q_drew)); exact HO383.out⟩, ⟨qB HB⟩⟩
   case round =>
    clear H'
    try clear c1
    try clear c10
    try clear c12b0
    try clear c12b1
    try clear c13b0
    try clear c13b1
    try clear c15
    try clear q15
    obtain ⟨x8_2, x35_2, rfl, HA, HK2, za, HB⟩ := hrel
    have hl8_2 := (Kd.Q_reads' za.out).1
    rw [hl8_2] at za
    (try simp only [hl8_2])
    cases gk with
    | zero => exact absurd HA.out (by simp [spread_Source.l0])
    | succ k2 =>
     have H := HA.out
     clear HA
     simp only [spread_Source.l0] at H
     by_cases c16 : x35_2 < (l0.length : Int)
     rotate_left
     ·rw [if_neg c16] at H
      have zh : decide (x35_2 < (l0.length : Int)) = false := decide_eq_false c16
      (try simp only [hl8_2] at zh)
      clear c16
      replace H := Option.bind_eq_some_iff.mp H
      obtain ⟨⟨t386, t387⟩, zo, H⟩ := H
      try dsimp only at H
      have A24 := aM zo
      clear zo
      simp only [Option.some.injEq, Prod.mk.injEq] at H
      obtain ⟨rfl, rfl⟩ := H
      go_wp2_with (first | ((with_reducible refine gate_callee (f := 41) rfl ?_); refine goesL_ (some 48) rfl rfl Try.func41 (by kernel_rfl) rfl #[.slice A0 l0.length c0, .slice A15 x8_2.length c15] rfl pA ?_; (with_reducible refine (walk_Place.calls k2 _ _ l0 _ _ x8_2 t386 t387 _ ?s1 ?s2 ?s3 ?s4 A24.out).mono ?_); (case s1 => exact sC HR0 HB); (case s2 => exact HC0.out); (case s3 => exact pC (Kd.Q_reads' za.out).2.2); (case s4 => exact (Kd.Q_reads' za.out).2.1); rintro e w' ⟨rfl, ⟨nd, rfl⟩⟩; refine ⟨_, rfl, ?_⟩))
      go_ret2
      exact ⟨by first | rfl | (simp [errW_none, errW_some] <;> rfl) | (simp only [← hji11]; first | rfl | (simp [errW_none, errW_some] <;> rfl)) | (simp [*, errW_none, errW_some] <;> rfl), qB HB⟩
     rw [if_pos c16] at H
     have zh : decide (x35_2 < (l0.length : Int)) = true := decide_eq_true c16
     (try simp only [hl8_2] at zh)
     clear c16
     by_cases c17 : 0 ≤ x35_2
     rotate_left
     ·rw [if_neg c17] at H
      exact absurd H (by simp)
     rw [if_pos c17] at H
     have c17b0 : decide (0 ≤ x35_2) = true := decide_eq_true c17
     clear c17
     by_cases c18 : x35_2 < (l0.length : Int)
     rotate_left
     ·rw [if_neg c18] at H
      exact absurd H (by simp)
     rw [if_pos c18] at H
     have c18b0 : decide (x35_2 < (l0.length : Int)) = true := decide_eq_true c18
     (try simp only [hl8_2] at c18b0)
     clear c18
     by_cases c19 : (rd l0 x35_2) = 1
     rotate_left
     ·rw [if_neg c19] at H
      have c19b0 : ((rd l0 x35_2) == 1) = false := beq_eq_false_iff_ne.mpr c19
      have c19b1 : ((rd l0 x35_2) != 1) = true := bne_iff_ne.mpr c19
      have H' := aM H
      clear H
      have p384 : 0 ≤ (x35_2 : Int) := of_decide_eq_true pD
      have q384 : x35_2 < (l0.length : Int) := of_decide_eq_true pD
      obtain ⟨ad384, e384, hx384_0⟩ := Kd.at_int HR0.out x35_2 p384 q384
      cases e384
      replace hx384_0 := (HB.out.cell (World.block_lt_of_cell? w _ hx384_0)).trans hx384_0
      replace p384 := eq_true p384
      replace q384 := eq_true q384
      go_wp2
      (try simp only [← hl8_2])
      go_roundg k2
      case measure => have := HJ4.out; have := HK2.out; omega
      case rel => exact ⟨(x8_2), (wrap64 (x35_2 + 1)), (pF), H', ⟨by have := HJ4.out; have := HK2.out; omega⟩, ⟨by (try simp only [hl8_2]); (with_reducible repeat (first | apply Kd.Q_alloc | apply Kd.Q_drewN | apply Kd.Q_drew)); exact za.out⟩, ⟨qB HB⟩⟩
     rw [if_pos c19] at H
     have c19b0 : ((rd l0 x35_2) == 1) = true := beq_iff_eq.mpr c19
     have c19b1 : ((rd l0 x35_2) != 1) = false := bne_eq_false_iff_eq.mpr c19
     clear c19
     by_cases c20 : x35_2 < (x8_2.length : Int)
     rotate_left
     ·rw [if_neg c20] at H
      exact absurd H (by simp)
     rw [if_pos c20] at H
     have c20b0 : decide (x35_2 < (x8_2.length : Int)) = true := decide_eq_true c20
     (try simp only [hl8_2] at c20b0)
     clear c20
     obtain ⟨zm, zi⟩ : ∃ y_ : List Int, y_ = (x8_2.set (x35_2 : Int).toNat 0) := ⟨_, rfl⟩
     replace H : (spread_Source.l0 k2 l0 zm l0 (l0.length : Int) (wrap64 (x35_2 + 1))) = some (r1, r2) := pH zi H
     have Ny385 := aM zi
     clear zi
     have H' := aM H
     clear H
     have p384 : 0 ≤ (x35_2 : Int) := of_decide_eq_true pD
     have q384 : x35_2 < (l0.length : Int) := of_decide_eq_true pD
     obtain ⟨ad384, e384, hx384_0⟩ := Kd.at_int HR0.out x35_2 p384 q384
     cases e384
     replace hx384_0 := (HB.out.cell (World.block_lt_of_cell? w _ hx384_0)).trans hx384_0
     replace p384 := eq_true p384
     replace q384 := eq_true q384
     have p21 : 0 ≤ (x35_2 : Int) := of_decide_eq_true pD
     have q21 : (x35_2 : Int) < ((x8_2.length : Int) : Int) := of_decide_eq_true pD
     obtain ⟨go21, oo21, co21, zp, zq, gl21, cl21, HG21⟩ := Kd.Q_form za.out (by omega)
     (first | cases zp | (injection zp with ea_ en_ ec_; (first | subst ea_ | (injection ea_ with ea_; subst ea_)); subst ec_; clear en_))
     have GB21 := aM zq
     have GG21 := aM HG21
     clear zq gl21 HG21
     obtain ⟨hx21_0, hf21_0⟩ := Kd.Q_cell 0 za.out (x35_2 : Int) p21 q21
     replace p21 := eq_true p21
     replace q21 := eq_true q21
     have HP22 := Kd.Q_putg za.out (x35_2 : Int) (of_decide_eq_true pD) (by have h_ : (x35_2 : Int) < ((x8_2.length : Int) : Int) := of_decide_eq_true pD; first | exact h_ | (have e_ := (Kd.Q_reads' za.out).1; omega) | simpa using h_) 0
     go_wp2_with (first | ((with_reducible refine gate_store (t := 3) (p := 44) rfl ?_); refine store_event (t := 3) (p := 44) (v := ?vo_w23) (w1 := (wr.setCell ⟨go21, oo21 + (x35_2 : Int).toNat, none⟩ (.int .i64 0))) ?hg ?ho ?hn ?hr ?_; (case ho => rfl); (case hg => rfl); (case hn => rfl); (case hr => first | (go_simp; done) | (go_simp; rfl)); intro w23 hw; have hg : wr.grownBy w23 (some go21) := (by rw [hw]; exact HP22.2); have hp_ : Kd.Q (Kd.int .i64) 3 w23 w.heap.size (fun _ => True) (.slice (some ⟨go21, oo21, none⟩) x8_2.length c15) zm := (by rw [hw, Ny385.out]; exact HP22.1); clear HP22; replace za := aM (hp_); replace HB := aM ((by rw [hw]; exact below_set (HB.out) GB21.out : Below w.heap.size w w23)); clear hg hw hp_))
     (try simp only [← hl8_2])
     go_roundg k2
     case measure => have := HJ4.out; have := HK2.out; omega
     case rel => exact ⟨(zm), (wrap64 (x35_2 + 1)), (pF), H', ⟨by have := HJ4.out; have := HK2.out; omega⟩, ⟨by (try simp only [hl8_2]); (with_reducible repeat (first | apply Kd.Q_alloc | apply Kd.Q_drewN | apply Kd.Q_drew)); exact za.out⟩, ⟨qB HB⟩⟩
def move_seen.l0 : Nat → List Int → List Int → List Int → List Int → Int → Int → Option (Int × List Int)
 | 0, _, _, _, _, _, _ => none
 | k + 1, x2, x4, x14, x25, x26, x27 => if x27 < x26 then (if 0 ≤ x27 then (if x27 < (x25.length : Int) then (if x27 < (x4.length : Int) then (if 0 ≤ (rd x25 x27) then (if (rd x25 x27) < (x14.length : Int) then (move_seen.l0 k x2 x4 (x14.set ((rd x25 x27) : Int).toNat (rd x4 x27)) x25 x26 (wrap64 (x27 + 1))) else (none)) else (none)) else (none)) else (none)) else (none)) else ((walk_Place.f k x2 x14).bind fun bt395 => (some (bt395.1, x4)))
def move_seen.f (k : Nat) (a0 : Int) (a1_0 : Int) (a1_1 : Int) (a1_2 : Int) (a1_3 : Int) (a1_4 : Int) (a1_5 : Int) (a1_6 : Int) (a1_7 : Int) (a1_8 : Bool) (l1_9 : List Int) (l2 : List Int) (l3 : List Int) (l4 : List Int) (a5 : Int) : Option (Int × List Int) := if a0 = 34 then (if 0 ≤ (l2.length : Int) then (if ((l2.length : Int) : Int).toNat ≤ 35184372088832 then (move_seen.l0 k l2 l4 (List.replicate ((l2.length : Int) : Int).toNat 0) l1_9 (l1_9.length : Int) 0) else (none)) else (none)) else (if a0 = 35 then (if 0 ≤ a1_0 then (if a1_0 < (l4.length : Int) then ((some (l4.set (a1_0 : Int).toNat (wrap64 (a1_1 + (wrap64 ((rd l4 a1_0) * a1_3)))) : List Int)).bind fun ze => (if a1_2 = 1 then ((some (ze.set (a1_0 : Int).toNat a1_1 : List Int)).bind fun zg => ((walk_Place.f k l2 zg).bind fun bt400 => (some (bt400.1, zg)))) else ((walk_Place.f k l2 ze).bind fun bt402 => (some (bt402.1, ze))))) else (none)) else (none)) else (if a0 = 36 then ((spread_Source.f k l2 l3 a5).bind fun bt404 => (some (bt404.1, l4))) else (if a0 = 37 then (if 0 ≤ a1_0 then (if a1_0 < (l2.length : Int) then (if a1_0 < (l4.length : Int) then ((some (l4.set (a1_0 : Int).toNat (wrap64 ((wrap64 ((rd l2 a1_0) - 1)) - (rd l4 a1_0))) : List Int)).bind fun zh => ((walk_Place.f k l2 zh).bind fun bt409 => (some (bt409.1, zh)))) else (none)) else (none)) else (none)) else (some (a5, l4)))))
def move_seen.T12 : Bool × List (List Nat × List Nat) := (true, [([], []), ([], []), ([1], [1]), ([], []), ([3], [3]), ([], []), ([], []), ([6], [6]), ([5, 7], [5, 7]), ([8], [8]), ([], []), ([10], [10]), ([9, 11], [9, 11]), ([4, 12], [4, 12]), ([0, 2, 0, 1, 2, 3, 4, 5, 6, 7, 8, 9, 10, 11, 12, 13], [0, 2]), ([14, 13, 0, 1, 2, 3, 4, 5, 6, 7, 8, 9, 10, 11, 12, 13], [13, 14])])
def move_seen.B12 : List Nat := [0, 0, 2, 0, 8, 0, 0, 64, 224, 480, 0, 1024, 4064, 8184, 16383, 32767]
theorem move_seen.tab12 : rtab .any (opsOf Try.f40 12) = move_seen.T12 := by kernel_rfl
theorem move_seen.bits12 : waitsOk move_seen.T12.2 move_seen.B12 = true := by kernel_rfl
def move_seen.T19 : Bool × List (List Nat × List Nat) := (true, [([], []), ([], []), ([1], [1]), ([], []), ([], []), ([4], [4]), ([3, 5], [3, 5]), ([6], [6]), ([7], [7]), ([], []), ([], []), ([10], [10]), ([9, 11], [9, 11]), ([12], [12]), ([8, 13], [8, 13]), ([0, 2, 0, 1, 2, 3, 4, 5, 6, 7, 8, 9, 10, 11, 12, 13, 14], [0, 2]), ([15, 14, 0, 1, 2, 3, 4, 5, 6, 7, 8, 9, 10, 11, 12, 13, 14], [14, 15])])
def move_seen.B19 : List Nat := [0, 0, 2, 0, 0, 16, 56, 120, 248, 0, 0, 1024, 3584, 7680, 16376, 32767, 65535]
theorem move_seen.tab19 : rtab .any (opsOf Try.f40 19) = move_seen.T19 := by kernel_rfl
theorem move_seen.bits19 : waitsOk move_seen.T19.2 move_seen.B19 = true := by kernel_rfl
set_option maxHeartbeats 8000000 in
set_option maxRecDepth 100000 in
theorem move_seen.calls (k : Nat) (a0 : Int) (a1_0 : Int) (a1_1 : Int) (a1_2 : Int) (a1_3 : Int) (a1_4 : Int) (a1_5 : Int) (a1_6 : Int) (a1_7 : Int) (a1_8 : Bool) (A1_9 : Option Addr) (c1_9 : Nat) (l1_9 : List Int) (A2 : Option Addr) (c2 : Nat) (l2 : List Int) (A3 : Option Addr) (c3 : Nat) (l3 : List Int) (P4_ : Nat → Prop) (u9000_ : Value) (l4 : List Int) (a5 : Int) (r1 : Int) (r2 : List Int) (w0 w : World) (hB : Below w0.heap.size w0 w) (hr1_9 : ∀ W_, Kept w W_ (fun k_ => P4_ k_) → Kd.C (Kd.int .i64) W_ A1_9 l1_9.length l1_9) (hc1_9 : l1_9.length ≤ c1_9) (hr2 : ∀ W_, Kept w W_ (fun k_ => P4_ k_) → Kd.C (Kd.int .i64) W_ A2 l2.length l2) (hc2 : l2.length ≤ c2) (hr3 : ∀ W_, Kept w W_ (fun k_ => P4_ k_) → Kd.C (Kd.int .i64) W_ A3 l3.length l3) (hc3 : l3.length ≤ c3) (ho4 : Kd.R (Kd.int .i64) 3 w w0.heap.size P4_ u9000_ l4) (h : move_seen.f k a0 a1_0 a1_1 a1_2 a1_3 a1_4 a1_5 a1_6 a1_7 a1_8 l1_9 l2 l3 l4 a5 = some (r1, r2)) :
  Calls Try.prog 40 #[.int .i64 a0, .agg #[.int .i64 a1_0, .int .i64 a1_1, .int .i64 a1_2, .int .i64 a1_3, .int .i64 a1_4, .int .i64 a1_5, .int .i64 a1_6, .int .i64 a1_7, .bool a1_8, .slice A1_9 l1_9.length c1_9], .slice A2 l2.length c2, .slice A3 l3.length c3, u9000_, .int .i64 a5] w fun e w' => e = .returned (.int .i64 r1) ∧ Kd.R (Kd.int .i64) 3 w' w0.heap.size (fun k_ => (P4_ k_ ∨ w.heap.size ≤ k_)) u9000_ r2 ∧ Below w0.heap.size w0 w' ∧ Kept w w' (fun k_ => P4_ k_) := by
 have hu24 := Try.underlying24
 have HR1_9 := aM hr1_9
 have HC1_9 := aM hc1_9
 clear hr1_9 hc1_9
 have HR2 := aM hr2
 have HC2 := aM hc2
 clear hr2 hc2
 have HR3 := aM hr3
 have HC3 := aM hc3
 clear hr3 hc3
 have HO4 := aM (show Kd.R (Kd.int .i64) 3 w w0.heap.size (fun k_ => (P4_ k_ ∨ w.heap.size ≤ k_)) u9000_ l4 from Kd.R_mono ho4 (fun k_ hk => (.inl hk)))
 have HK := aM (Kept.refl w (fun k_ => P4_ k_))
 have HW0 := aM hB.size
 have HB := aM hB
 clear hB
 have H : (if a0 = 34 then (if 0 ≤ (l2.length : Int) then (if ((l2.length : Int) : Int).toNat ≤ 35184372088832 then (move_seen.l0 k l2 l4 (List.replicate ((l2.length : Int) : Int).toNat 0) l1_9 (l1_9.length : Int) 0) else (none)) else (none)) else (if a0 = 35 then (if 0 ≤ a1_0 then (if a1_0 < (l4.length : Int) then ((some (l4.set (a1_0 : Int).toNat (wrap64 (a1_1 + (wrap64 ((rd l4 a1_0) * a1_3)))) : List Int)).bind fun ze => (if a1_2 = 1 then ((some (ze.set (a1_0 : Int).toNat a1_1 : List Int)).bind fun zg => ((walk_Place.f k l2 zg).bind fun bt400 => (some (bt400.1, zg)))) else ((walk_Place.f k l2 ze).bind fun bt402 => (some (bt402.1, ze))))) else (none)) else (none)) else (if a0 = 36 then ((spread_Source.f k l2 l3 a5).bind fun bt404 => (some (bt404.1, l4))) else (if a0 = 37 then (if 0 ≤ a1_0 then (if a1_0 < (l2.length : Int) then (if a1_0 < (l4.length : Int) then ((some (l4.set (a1_0 : Int).toNat (wrap64 ((wrap64 ((rd l2 a1_0) - 1)) - (rd l4 a1_0))) : List Int)).bind fun zh => ((walk_Place.f k l2 zh).bind fun bt409 => (some (bt409.1, zh)))) else (none)) else (none)) else (none)) else (some (a5, l4)))))) = some (r1, r2) := h
 clear h
 by_cases c7 : a0 = 34
 ·rw [if_pos c7] at H
  have zv : (a0 == 34) = true := beq_iff_eq.mpr c7
  have zw : (a0 != 34) = false := bne_eq_false_iff_eq.mpr c7
  clear c7
  by_cases c8 : 0 ≤ (l2.length : Int)
  rotate_left
  ·rw [if_neg c8] at H
   exact absurd H (by simp)
  rw [if_pos c8] at H
  have c8b0 := eq_true c8
  have c8b1 : decide (0 ≤ (l2.length : Int)) = true := decide_eq_true c8
  clear c8
  by_cases c9 : ((l2.length : Int) : Int).toNat ≤ 35184372088832
  rotate_left
  ·rw [if_neg c9] at H
   exact absurd H (by simp)
  rw [if_pos c9] at H
  have c9b0 := eq_true c9
  have c9b1 : decide (((l2.length : Int) : Int).toNat ≤ 35184372088832) = true := decide_eq_true c9
  clear c9
  obtain ⟨zx, zj⟩ : ∃ y_ : List Int, y_ = (List.replicate ((l2.length : Int) : Int).toNat 0) := ⟨_, rfl⟩
  replace H : (move_seen.l0 k l2 l4 zx l1_9 (l1_9.length : Int) 0) = some (r1, r2) := pH zj H
  have zq := aM zj
  clear zj
  have H' := aM H
  clear H
  go_enter Try.func40, Try.ntmps40
  go_wp2_with (first | ((with_reducible refine gate_dst (N := 7) rfl ?_); refine box_event ?hg (N := 7) ?hd (cs := #[.int .i64 a1_0, .int .i64 a1_1, .int .i64 a1_2, .int .i64 a1_3, .int .i64 a1_4, .int .i64 a1_5, .int .i64 a1_6, .int .i64 a1_7, .bool a1_8, .slice A1_9 l1_9.length c1_9]) (t := 24) ?hr ?_; (case hd => rfl); (case hg => rfl); (case hr => first | (go_simp; done) | (go_simp; rfl)); intro zb hg w10 hbox hb; replace HO4 := bR HO4 hb; have za := aM (hbox); have zc := aM ((by rw [hg]; exact (by first | exact HK.out.1 | exact (show Kept w _ (fun k_ => P4_ k_) from by repeat (first | (with_reducible first | exact HK.out | apply Kept.alloc | apply Kept.drewN | apply Kept.drew) | exact HK.out)).1) : w.heap.size ≤ zb)); replace HK := aM (Kept.below (S := (fun k_ => P4_ k_)) (by repeat (first | (with_reducible first | exact HK.out | apply Kept.alloc | apply Kept.drewN | apply Kept.drew) | exact HK.out)) hb); have zd := gE (w := w0) hg (qB HB); replace HB := bS (qB HB) hb; clear hb hbox hg) | ((with_reducible refine gate_dst (N := 23) rfl ?_); refine Kd.R_make (Kd.int .i64) _ 3 rfl (N := 23) rfl 22 _ _ rfl (l2.length : Int) rfl rfl Try.underlying22 (.int .i64 0) 8 info3 rfl (by decide) (by omega) 0 (ok := fun _ => True) (okp := fun _ => True) rfl (fun _ hk => hk) trivial (of_decide_eq_true pD) (Nat.le_trans (Nat.mul_le_mul_right _ (of_decide_eq_true pD : (l2.length : Int).toNat ≤ 35184372088832)) (by omega)) (Below.refl _ _) (Nat.le_refl _) ?_; intro zy w11 ho12 hb hg_ hnew_; clear hg_ hnew_; (first | rw [← zq.out] at ho12 | (simp only [Int.reduceToNat] at ho12; rw [← zq.out] at ho12)); have HO391 := aM (Kd.R_lower (Kd.R_new' (Kd.R_newM (M := fun k_ => (P4_ k_ ∨ w.heap.size ≤ k_)) ho12 (by first | exact HK.out.1 | exact (show Kept w _ (fun k_ => P4_ k_) from by repeat (first | (with_reducible first | exact HK.out | apply Kept.alloc | apply Kept.drewN | apply Kept.drew | refine Kept.setCell ?_ (.inr zc.out) _) | exact HK.out)).1) (fun k_ h_ => .inr h_)) (Kd.R_lt (pR HO4.out))) (below_size (qB1 HB zd))); replace HO4 := eR HO4 ho12 hb; replace za := bK za hb; replace HK := aM (Kept.below (S := (fun k_ => P4_ k_)) (by repeat (first | (with_reducible first | exact HK.out | apply Kept.alloc | apply Kept.drewN | apply Kept.drew | refine Kept.setCell ?_ (.inr zc.out) _) | exact HK.out)) hb); replace HB := bS (qB1 HB zd) hb; clear hb ho12; obtain ⟨hcz13_0, hcz13_1, hcz13_2, hcz13_3, hcz13_4, hcz13_5, hcz13_6, hcz13_7, hcz13_8, hcz13_9, hfz13_0, hfz13_1, hfz13_2, hfz13_3, hfz13_4, hfz13_5, hfz13_6, hfz13_7, hfz13_8, hfz13_9⟩ := blk10 za.out))
  go_loopg [27] k (fun kq v27 w' => ∃ (x14_1 : List Int) (x27_1 : Int), v27 = .int .i64 x27_1 ∧ Aside0 (move_seen.l0 kq l2 l4 x14_1 l1_9 (l1_9.length : Int) x27_1 = some (r1, r2)) ∧ Aside0 (kq ≤ k) ∧ Aside0 (Kd.R (Kd.int .i64) 3 w' w0.heap.size (fun k_ => (P4_ k_ ∨ w.heap.size ≤ k_) ∧ some k_ ≠ (zy : Value).ownBlock) u9000_ l4) ∧ Aside0 (Kd.R (Kd.int .i64) 3 w' w0.heap.size (fun k_ => (P4_ k_ ∨ w.heap.size ≤ k_) ∧ some k_ ≠ (u9000_ : Value).ownBlock) zy x14_1) ∧ Aside0 (w'.heap[zb]? = some (.cells #[.int .i64 a1_0, .int .i64 a1_1, .int .i64 a1_2, .int .i64 a1_3, .int .i64 a1_4, .int .i64 a1_5, .int .i64 a1_6, .int .i64 a1_7, .bool a1_8, (.slice A1_9 l1_9.length c1_9)] 24 (0, 0))) ∧ Aside0 (Kept w w' (fun k_ => P4_ k_)) ∧ Aside0 (Below w0.heap.size w0 w'))
  case atStart => exact ⟨(zx), (0), (pF), H', ⟨Nat.le_refl _⟩, ⟨pR HO4.out⟩, ⟨by (with_reducible repeat (first | apply rA | apply rN | apply rD)); exact Kd.R_mono HO391.out (fun _ hk => ⟨hk.1.1, hk.2⟩)⟩, ⟨pK za.out⟩, ⟨by repeat (first | (with_reducible first | exact HK.out | apply Kept.alloc | apply Kept.drewN | apply Kept.drew | refine Kept.setCell ?_ (.inr zc.out) _) | exact HK.out)⟩, ⟨qB1 HB zd⟩⟩
  case round =>
   clear H'
   try clear c2
   try clear c3
   try clear zv
   try clear zw
   try clear c8b0
   try clear c8b1
   try clear c9b0
   try clear c9b1
   try clear hcz13_0 hcz13_1 hcz13_2 hcz13_3 hcz13_4 hcz13_5 hcz13_6 hcz13_7 hcz13_8 hcz13_9 hfz13_0 hfz13_1 hfz13_2 hfz13_3 hfz13_4 hfz13_5 hfz13_6 hfz13_7 hfz13_8 hfz13_9
   obtain ⟨x14_1, x27_1, rfl, HA, HK1, zi, zf, za, HK, HB⟩ := hrel
   cases gk with
   | zero => exact absurd HA.out (by simp [move_seen.l0])
   | succ k1 =>
    have H := HA.out
    clear HA
    simp only [move_seen.l0] at H
    by_cases c14 : x27_1 < (l1_9.length : Int)
    rotate_left
    ·rw [if_neg c14] at H
     have c14b0 : decide (x27_1 < (l1_9.length : Int)) = false := decide_eq_false c14
     clear c14
     replace H := Option.bind_eq_some_iff.mp H
     obtain ⟨⟨t395, t396⟩, zz, H⟩ := H
     try dsimp only at H
     have A24 := aM zz
     clear zz
     simp only [Option.some.injEq, Prod.mk.injEq] at H
     obtain ⟨rfl, rfl⟩ := H
     obtain ⟨Ao25, co25, eo25⟩ := Kd.R_slice zf.out
     subst eo25
     go_wp2_with (first | ((with_reducible refine gate_callee (f := 41) rfl ?_); refine goesL_ (some 43) rfl rfl Try.func41 (by kernel_rfl) rfl #[.slice A2 l2.length c2, .slice Ao25 x14_1.length co25] rfl pA ?_; (with_reducible refine (walk_Place.calls k1 _ _ l2 _ _ x14_1 t395 t396 _ ?s1 ?s2 ?s3 ?s4 A24.out).mono ?_); (case s1 => exact Kd.C_kept_now HR2.out (by repeat (first | (with_reducible first | exact HK.out | apply Kept.alloc | apply Kept.drewN | apply Kept.drew | refine Kept.setCell ?_ (.inr zc.out) _) | exact HK.out))); (case s2 => exact HC2.out); (case s3 => exact sR zf); (case s4 => exact sL zf); rintro e w' ⟨rfl, ⟨nd, rfl⟩⟩; refine ⟨_, rfl, ?_⟩))
     go_ret
     exact ⟨pE, by (with_reducible repeat (first | apply rA | apply rN | apply rD)); exact Kd.R_mono zi.out (fun _ hk => hk.1), qB1 HB zd, by repeat (first | (with_reducible first | exact HK.out | apply Kept.alloc | apply Kept.drewN | apply Kept.drew | refine Kept.setCell ?_ (.inr zc.out) _) | exact HK.out)⟩
    rw [if_pos c14] at H
    have c14b0 : decide (x27_1 < (l1_9.length : Int)) = true := decide_eq_true c14
    clear c14
    by_cases c15 : 0 ≤ x27_1
    rotate_left
    ·rw [if_neg c15] at H
     exact absurd H (by simp)
    rw [if_pos c15] at H
    have c15b0 : decide (0 ≤ x27_1) = true := decide_eq_true c15
    clear c15
    by_cases c16 : x27_1 < (l1_9.length : Int)
    rotate_left
    ·rw [if_neg c16] at H
     exact absurd H (by simp)
    rw [if_pos c16] at H
    have c16b0 : decide (x27_1 < (l1_9.length : Int)) = true := decide_eq_true c16
    clear c16
    by_cases c17 : x27_1 < (l4.length : Int)
    rotate_left
    ·rw [if_neg c17] at H
     exact absurd H (by simp)
    rw [if_pos c17] at H
    have c17b0 : decide (x27_1 < (l4.length : Int)) = true := decide_eq_true c17
    clear c17
    by_cases c18 : 0 ≤ (rd l1_9 x27_1)
    rotate_left
    ·rw [if_neg c18] at H
     exact absurd H (by simp)
    rw [if_pos c18] at H
    have c18b0 : decide (0 ≤ (rd l1_9 x27_1)) = true := decide_eq_true c18
    clear c18
    by_cases c19 : (rd l1_9 x27_1) < (x14_1.length : Int)
    rotate_left
    ·rw [if_neg c19] at H
     exact absurd H (by simp)
    rw [if_pos c19] at H
    have c19b0 : decide ((rd l1_9 x27_1) < (x14_1.length : Int)) = true := decide_eq_true c19
    clear c19
    obtain ⟨zs, zk⟩ : ∃ y_ : List Int, y_ = (x14_1.set ((rd l1_9 x27_1) : Int).toNat (rd l4 x27_1)) := ⟨_, rfl⟩
    replace H : (move_seen.l0 k1 l2 l4 zs l1_9 (l1_9.length : Int) (wrap64 (x27_1 + 1))) = some (r1, r2) := pH zk H
    have Ny394 := aM zk
    clear zk
    have H' := aM H
    clear H
    have p392 : 0 ≤ (x27_1 : Int) := of_decide_eq_true pD
    have q392 : x27_1 < (l1_9.length : Int) := of_decide_eq_true pD
    obtain ⟨ad392, e392, hx392_0⟩ := Kd.at_int (Kd.C_kept_now HR1_9.out HK.out) x27_1 p392 q392
    cases e392
    replace p392 := eq_true p392
    replace q392 := eq_true q392
    obtain ⟨Ao21, co21, eo21⟩ := Kd.R_slice zi.out
    subst eo21
    have p393 : 0 ≤ (x27_1 : Int) := of_decide_eq_true pD
    have q393 : x27_1 < (l4.length : Int) := of_decide_eq_true pD
    obtain ⟨ad393, e393, hx393_0⟩ := Kd.at_int (Kd.R_reads' zi.out).2.2 x27_1 p393 q393
    cases e393
    replace p393 := eq_true p393
    replace q393 := eq_true q393
    have p20 : 0 ≤ ((rd l1_9 x27_1) : Int) := of_decide_eq_true pD
    have q20 : ((rd l1_9 x27_1) : Int) < ((x14_1.length : Int) : Int) := of_decide_eq_true pD
    obtain ⟨go20, zt, z0, z1, gl20, cl20, HG20⟩ := Kd.R_form zf.out (by omega)
    (first | cases z0 | (injection z0 with ea_ en_ ec_; (first | subst ea_ | (injection ea_ with ea_; subst ea_)); subst ec_; clear en_))
    have GB20 := aM z1
    have GG20 := aM HG20
    clear z1 gl20 HG20
    have HMgo20 := aM (show (P4_ go20 ∨ w.heap.size ≤ go20) from (zf.out.1 _ rfl).1)
    obtain ⟨hx20_0, hf20_0⟩ := Kd.R_celln 0 zf.out ((rd l1_9 x27_1) : Int) p20 q20
    replace p20 := eq_true p20
    replace q20 := eq_true q20
    have HP22 := Kd.R_putg zf.out ((rd l1_9 x27_1) : Int) (rd l4 x27_1)
    go_wp2_with (first | ((with_reducible refine gate_store (t := 3) (p := 38) rfl ?_); refine store_event (t := 3) (p := 38) (v := ?vo_w23) (w1 := (wr.setCell ⟨go20, ((rd l1_9 x27_1) : Int).toNat, none⟩ (.int .i64 (rd l4 x27_1)))) ?hg ?ho ?hn ?hr ?_; (case ho => rfl); (case hg => rfl); (case hn => rfl); (case hr => first | (go_simp; done) | (go_simp; rfl)); intro w23 hw; have hg : wr.grownBy w23 (some go20) := (by rw [hw]; exact HP22.2); have hp_ : Kd.R (Kd.int .i64) 3 w23 w0.heap.size (fun k_ => (P4_ k_ ∨ w.heap.size ≤ k_) ∧ some k_ ≠ (.slice (some ad393) l4.length co21 : Value).ownBlock) (.slice (some ⟨go20, 0, none⟩) x14_1.length zt) zs := (by rw [hw, Ny394.out]; exact HP22.1); clear HP22; replace zi := aM (Kd.R_after (v := (.slice (some ⟨go20, 0, none⟩) x14_1.length zt)) (v1 := (.slice (some ⟨go20, 0, none⟩) x14_1.length zt)) (ok := (fun k_ => (P4_ k_ ∨ w.heap.size ≤ k_))) (pR zi.out) hg (.inl rfl)); replace za := aM (blk_grown (g := zb) (pK za.out) hg (Kd.R_ne zf.out za.out (by decide))); replace HB := aM ((by rw [hw]; exact below_set (HB.out) GB20.out : Below w0.heap.size w0 w23)); replace HK := aM (Kept.of_grown (S := (fun k_ => P4_ k_)) hg (by repeat (first | (with_reducible first | exact HK.out | apply Kept.alloc | apply Kept.drewN | apply Kept.drew | refine Kept.setCell ?_ (.inr zc.out) _) | exact HK.out)) (fun k_ e_ => (zf.out.1 k_ e_).1)); replace zf := aM (hp_); clear hg hw hp_))
    go_roundg k1
    case measure => have := HK1.out; omega
    case rel => exact ⟨(zs), (wrap64 (x27_1 + 1)), (pF), H', ⟨by have := HK1.out; omega⟩, ⟨pR zi.out⟩, ⟨pR zf.out⟩, ⟨pK za.out⟩, ⟨by repeat (first | (with_reducible first | exact HK.out | apply Kept.alloc | apply Kept.drewN | apply Kept.drew | refine Kept.setCell ?_ (.inr zc.out) _) | exact HK.out)⟩, ⟨qB1 HB zd⟩⟩
 rw [if_neg c7] at H
 have zv : (a0 == 34) = false := beq_eq_false_iff_ne.mpr c7
 have zw : (a0 != 34) = true := bne_iff_ne.mpr c7
 by_cases c26 : a0 = 35
 rotate_left
 ·rw [if_neg c26] at H
  have c26b0 : (a0 == 35) = false := beq_eq_false_iff_ne.mpr c26
  have c26b1 : (a0 != 35) = true := bne_iff_ne.mpr c26
  by_cases c47 : a0 = 36
  ·rw [if_pos c47] at H
   have c47b0 : (a0 == 36) = true := beq_iff_eq.mpr c47
   have c47b1 : (a0 != 36) = false := bne_eq_false_iff_eq.mpr c47
   clear c47
   replace H := Option.bind_eq_some_iff.mp H
   obtain ⟨⟨t404, t405⟩, z2, H⟩ := H
   try dsimp only at H
   have A48 := aM z2
   clear z2
   simp only [Option.some.injEq, Prod.mk.injEq] at H
   obtain ⟨rfl, rfl⟩ := H
   go_enter Try.func40, Try.ntmps40
   go_wp2_with (first | ((with_reducible refine gate_dst (N := 7) rfl ?_); refine box_event ?hg (N := 7) ?hd (cs := #[.int .i64 a1_0, .int .i64 a1_1, .int .i64 a1_2, .int .i64 a1_3, .int .i64 a1_4, .int .i64 a1_5, .int .i64 a1_6, .int .i64 a1_7, .bool a1_8, .slice A1_9 l1_9.length c1_9]) (t := 24) ?hr ?_; (case hd => rfl); (case hg => rfl); (case hr => first | (go_simp; done) | (go_simp; rfl)); intro zb hg w49 hbox hb; replace HO4 := bR HO4 hb; have za := aM (hbox); have zc := aM ((by rw [hg]; exact (by first | exact HK.out.1 | exact (show Kept w _ (fun k_ => P4_ k_) from by repeat (first | (with_reducible first | exact HK.out | apply Kept.alloc | apply Kept.drewN | apply Kept.drew) | exact HK.out)).1) : w.heap.size ≤ zb)); replace HK := aM (Kept.below (S := (fun k_ => P4_ k_)) (by repeat (first | (with_reducible first | exact HK.out | apply Kept.alloc | apply Kept.drewN | apply Kept.drew) | exact HK.out)) hb); have zd := gE (w := w0) hg (qB HB); replace HB := bS (qB HB) hb; clear hb hbox hg) | ((with_reducible refine gate_callee (f := 68) rfl ?_); refine goesL_ (some 84) rfl rfl Try.func68 (by kernel_rfl) rfl #[.slice A2 l2.length c2, .slice A3 l3.length c3, .int .i64 a5] rfl pA ?_; (with_reducible refine (spread_Source.calls k _ _ l2 _ _ l3 a5 t404 t405 _ ?s1 ?s2 ?s3 ?s4 A48.out).mono ?_); (case s1 => exact Kd.C_kept_now HR2.out (by repeat (first | (with_reducible first | exact HK.out | apply Kept.alloc | apply Kept.drewN | apply Kept.drew | refine Kept.setCell ?_ (.inr zc.out) _) | exact HK.out))); (case s2 => exact HC2.out); (case s3 => exact Kd.C_kept_now HR3.out (by repeat (first | (with_reducible first | exact HK.out | apply Kept.alloc | apply Kept.drewN | apply Kept.drew | refine Kept.setCell ?_ (.inr zc.out) _) | exact HK.out))); (case s4 => exact HC3.out); rintro e w50 ⟨rfl, hb⟩; refine ⟨_, rfl, ?_⟩; replace HO4 := bR HO4 hb; replace za := bK za hb; replace HK := aM (Kept.below (S := (fun k_ => P4_ k_)) (by repeat (first | (with_reducible first | exact HK.out | apply Kept.alloc | apply Kept.drewN | apply Kept.drew | refine Kept.setCell ?_ (.inr zc.out) _) | exact HK.out)) hb); replace HB := bS (qB1 HB zd) hb; (try clear hb); (try clear hk); (try clear hi)))
   go_ret
   exact ⟨pE, pR HO4.out, qB1 HB zd, by repeat (first | (with_reducible first | exact HK.out | apply Kept.alloc | apply Kept.drewN | apply Kept.drew | refine Kept.setCell ?_ (.inr zc.out) _) | exact HK.out)⟩
  rw [if_neg c47] at H
  have c47b0 : (a0 == 36) = false := beq_eq_false_iff_ne.mpr c47
  have c47b1 : (a0 != 36) = true := bne_iff_ne.mpr c47
  by_cases c51 : a0 = 37
  rotate_left
  ·rw [if_neg c51] at H
   have c51b0 : (a0 == 37) = false := beq_eq_false_iff_ne.mpr c51
   have c51b1 : (a0 != 37) = true := bne_iff_ne.mpr c51
   simp only [Option.some.injEq, Prod.mk.injEq] at H
   obtain ⟨rfl, rfl⟩ := H
   go_enter Try.func40, Try.ntmps40
   go_wp2_with (first | ((with_reducible refine gate_dst (N := 7) rfl ?_); refine box_event ?hg (N := 7) ?hd (cs := #[.int .i64 a1_0, .int .i64 a1_1, .int .i64 a1_2, .int .i64 a1_3, .int .i64 a1_4, .int .i64 a1_5, .int .i64 a1_6, .int .i64 a1_7, .bool a1_8, .slice A1_9 l1_9.length c1_9]) (t := 24) ?hr ?_; (case hd => rfl); (case hg => rfl); (case hr => first | (go_simp; done) | (go_simp; rfl)); intro zb hg w61 hbox hb; replace HO4 := bR HO4 hb; have za := aM (hbox); have zc := aM ((by rw [hg]; exact (by first | exact HK.out.1 | exact (show Kept w _ (fun k_ => P4_ k_) from by repeat (first | (with_reducible first | exact HK.out | apply Kept.alloc | apply Kept.drewN | apply Kept.drew) | exact HK.out)).1) : w.heap.size ≤ zb)); replace HK := aM (Kept.below (S := (fun k_ => P4_ k_)) (by repeat (first | (with_reducible first | exact HK.out | apply Kept.alloc | apply Kept.drewN | apply Kept.drew) | exact HK.out)) hb); have zd := gE (w := w0) hg (qB HB); replace HB := bS (qB HB) hb; clear hb hbox hg))
   go_ret
   exact ⟨pE, pR HO4.out, qB1 HB zd, by repeat (first | (with_reducible first | exact HK.out | apply Kept.alloc | apply Kept.drewN | apply Kept.drew | refine Kept.setCell ?_ (.inr zc.out) _) | exact HK.out)⟩
  rw [if_pos c51] at H
  have c51b0 : (a0 == 37) = true := beq_iff_eq.mpr c51
  have c51b1 : (a0 != 37) = false := bne_eq_false_iff_eq.mpr c51
  clear c51
  by_cases c52 : 0 ≤ a1_0
  rotate_left
  ·rw [if_neg c52] at H
   exact absurd H (by simp)
  rw [if_pos c52] at H
  have c52b0 : decide (0 ≤ a1_0) = true := decide_eq_true c52
  clear c52
  by_cases c53 : a1_0 < (l2.length : Int)
  rotate_left
  ·rw [if_neg c53] at H
   exact absurd H (by simp)
  rw [if_pos c53] at H
  have c53b0 : decide (a1_0 < (l2.length : Int)) = true := decide_eq_true c53
  clear c53
  by_cases c54 : a1_0 < (l4.length : Int)
  rotate_left
  ·rw [if_neg c54] at H
   exact absurd H (by simp)
  rw [if_pos c54] at H
  have c54b0 : decide (a1_0 < (l4.length : Int)) = true := decide_eq_true c54
  clear c54
  obtain ⟨zh, zl⟩ : ∃ y_ : List Int, y_ = (l4.set (a1_0 : Int).toNat (wrap64 ((wrap64 ((rd l2 a1_0) - 1)) - (rd l4 a1_0)))) := ⟨_, rfl⟩
  replace H : ((walk_Place.f k l2 zh).bind fun bt409 => (some (bt409.1, zh))) = some (r1, r2) := pH zl H
  have Ny408 := aM zl
  clear zl
  replace H := Option.bind_eq_some_iff.mp H
  obtain ⟨⟨t409, t410⟩, z3, H⟩ := H
  try dsimp only at H
  have A56 := aM z3
  clear z3
  simp only [Option.some.injEq, Prod.mk.injEq] at H
  obtain ⟨rfl, rfl⟩ := H
  go_enter Try.func40, Try.ntmps40
  try go_wp2_with (first | ((with_reducible refine gate_dst (N := 7) rfl ?_); refine box_event ?hg (N := 7) ?hd (cs := #[.int .i64 a1_0, .int .i64 a1_1, .int .i64 a1_2, .int .i64 a1_3, .int .i64 a1_4, .int .i64 a1_5, .int .i64 a1_6, .int .i64 a1_7, .bool a1_8, .slice A1_9 l1_9.length c1_9]) (t := 24) ?hr ?_; (case hd => rfl); (case hg => rfl); (case hr => first | (go_simp; done) | (go_simp; rfl)); intro zb hg w57 hbox hb; replace HO4 := bR HO4 hb; have za := aM (hbox); have zc := aM ((by rw [hg]; exact (by first | exact HK.out.1 | exact (show Kept w _ (fun k_ => P4_ k_) from by repeat (first | (with_reducible first | exact HK.out | apply Kept.alloc | apply Kept.drewN | apply Kept.drew) | exact HK.out)).1) : w.heap.size ≤ zb)); replace HK := aM (Kept.below (S := (fun k_ => P4_ k_)) (by repeat (first | (with_reducible first | exact HK.out | apply Kept.alloc | apply Kept.drewN | apply Kept.drew) | exact HK.out)) hb); have zd := gE (w := w0) hg (qB HB); replace HB := bS (qB HB) hb; clear hb hbox hg))
  replace HO4 := aM (Kd.R_drew HO4.out)
  replace za := aM (blk_drew za.out)
  replace HK := aM (Kept.drew HK.out)
  replace HB := aM (below_drew1 HB.out)
  have p406 : 0 ≤ (a1_0 : Int) := of_decide_eq_true pD
  have q406 : a1_0 < (l2.length : Int) := of_decide_eq_true pD
  obtain ⟨ad406, e406, hx406_0⟩ := Kd.at_int (Kd.C_kept_now HR2.out HK.out) a1_0 p406 q406
  have hw406_0 := hx406_0
  cases e406
  replace p406 := eq_true p406
  replace q406 := eq_true q406
  obtain ⟨Ao59, z4, z5⟩ := Kd.R_slice HO4.out
  (first | subst z5 | (injection z5 with f1_ f2_ f3_; have f4_ := f1_.symm; have f5_ := f3_.symm; clear f1_ f2_ f3_; subst f4_; subst f5_))
  have p407 : 0 ≤ (a1_0 : Int) := of_decide_eq_true pD
  have q407 : a1_0 < (l4.length : Int) := of_decide_eq_true pD
  obtain ⟨ad407, e407, hx407_0⟩ := Kd.at_int (Kd.R_reads' HO4.out).2.2 a1_0 p407 q407
  cases e407
  replace p407 := eq_true p407
  replace q407 := eq_true q407
  have p55 : 0 ≤ (a1_0 : Int) := of_decide_eq_true pD
  have q55 : (a1_0 : Int) < ((l4.length : Int) : Int) := of_decide_eq_true pD
  obtain ⟨go55, co55, z6, z7, gl55, cl55, HG55⟩ := Kd.R_form HO4.out (by omega)
  (first | cases z6 | (injection z6 with ea_ en_ ec_; (first | subst ea_ | (injection ea_ with ea_; subst ea_)); subst ec_; clear en_))
  have GB55 := aM z7
  have GG55 := aM HG55
  clear z7 gl55 HG55
  have HMgo55 := aM (show (P4_ go55 ∨ w.heap.size ≤ go55) from (HO4.out.1 _ rfl))
  (first | simp only [add_plain] at hx407_0 | skip)
  obtain ⟨hx55_0, hf55_0⟩ := Kd.R_celln 0 HO4.out (a1_0 : Int) p55 q55
  replace p55 := eq_true p55
  replace q55 := eq_true q55
  have HP60 := Kd.R_putn HO4.out (a1_0 : Int) (wrap64 ((wrap64 ((rd l2 a1_0) - 1)) - (rd l4 a1_0)))
  rw [← Ny408.out] at HP60
  have HQ60 := aM HP60
  clear HP60
  refine start_ (n := 17) (S := fun w' => w'.cell? ⟨zb, 0, none⟩ = some (.int .i64 a1_0) ∧ w'.cell? ⟨zb, 1, none⟩ = some (.int .i64 a1_1) ∧ w'.cell? ⟨zb, 2, none⟩ = some (.int .i64 a1_2) ∧ w'.cell? ⟨zb, 3, none⟩ = some (.int .i64 a1_3) ∧ w'.cell? ⟨zb, 4, none⟩ = some (.int .i64 a1_4) ∧ w'.cell? ⟨zb, 5, none⟩ = some (.int .i64 a1_5) ∧ w'.cell? ⟨zb, 6, none⟩ = some (.int .i64 a1_6) ∧ w'.cell? ⟨zb, 7, none⟩ = some (.int .i64 a1_7) ∧ w'.cell? ⟨zb, 8, none⟩ = some (.bool a1_8) ∧ w'.cell? ⟨zb, 9, none⟩ = some (.slice A1_9 l1_9.length c1_9) ∧ w'.cell? (ad406.add (a1_0).toNat) = some (.int .i64 (rd l2 a1_0)) ∧ w'.cell? ⟨go55, (a1_0).toNat, none⟩ = some (.int .i64 (rd l4 a1_0))) (ds := [16]) (bm 17 0) (by kernel_rfl) rfl rfl ⟨(blk_cell za.out 0).trans rfl, (blk_cell za.out 1).trans rfl, (blk_cell za.out 2).trans rfl, (blk_cell za.out 3).trans rfl, (blk_cell za.out 4).trans rfl, (blk_cell za.out 5).trans rfl, (blk_cell za.out 6).trans rfl, (blk_cell za.out 7).trans rfl, (blk_cell za.out 8).trans rfl, (blk_cell za.out 9).trans rfl, (Kd.foot_int (HR2.out _ (by repeat (first | exact HK.out | apply Kept.alloc | apply Kept.drewN | apply Kept.drew | refine Kept.setCell ?_ HMgo55.out _))) a1_0 (of_eq_true p406) (of_eq_true q406)), hx407_0⟩ (fun hHeld => ?_); refine with_tabW move_seen.tab19 move_seen.bits19 (fun HT_ HW_ => ?_)
  generalize w57.drew = w58 at HO4 za HK HB GG55 HQ60 hf55_0 hx406_0 hx407_0 hx55_0 hHeld ⊢
  refine pP (i := 0) (N := some 89) (bm 17 1) rfl rfl HT_.out ?_
  refine pP (i := 1) (N := some 90) (bm 17 3) rfl rfl HT_.out ?_
  refine pP (i := 3) (N := some 92) (bm 17 11) rfl rfl HT_.out ?_
  refine pP (i := 4) (N := some 93) (bm 17 27) rfl rfl HT_.out ?_
  refine pP (i := 9) (N := some 98) (bm 17 539) rfl rfl HT_.out ?_
  refine pP (i := 10) (N := some 99) (bm 17 1563) rfl rfl HT_.out ?_
  refine pT (i := 2) (N := some 91) (bm 17 1567) rfl rfl HT_.out HW_.out hHeld (by rintro w' ⟨s0, s1, s2, s3, s4, s5, s6, s7, s8, s9, s10, s11⟩; go_simp; with_reducible rfl) ?_
  refine pT (i := 5) (N := some 94) (bm 17 1599) rfl rfl HT_.out HW_.out hHeld (by rintro w' ⟨s0, s1, s2, s3, s4, s5, s6, s7, s8, s9, s10, s11⟩; go_simp; with_reducible rfl) ?_
  refine pP (i := 6) (N := some 95) (bm 17 1663) rfl rfl HT_.out ?_
  refine pT (i := 7) (N := some 96) (bm 17 1791) rfl rfl HT_.out HW_.out hHeld (by rintro w' ⟨s0, s1, s2, s3, s4, s5, s6, s7, s8, s9, s10, s11⟩; go_simp; with_reducible rfl) ?_
  refine pP (i := 8) (N := some 97) (bm 17 2047) rfl rfl HT_.out ?_
  refine pT (i := 11) (N := some 100) (bm 17 4095) rfl rfl HT_.out HW_.out hHeld (by rintro w' ⟨s0, s1, s2, s3, s4, s5, s6, s7, s8, s9, s10, s11⟩; go_simp; with_reducible rfl) ?_
  refine pP (i := 12) (N := some 101) (bm 17 8191) rfl rfl HT_.out ?_
  refine pT (i := 13) (N := some 102) (bm 17 16383) rfl rfl HT_.out HW_.out hHeld (by rintro w' ⟨s0, s1, s2, s3, s4, s5, s6, s7, s8, s9, s10, s11⟩; go_simp; with_reducible rfl) ?_
  refine pP (i := 14) (N := some 103) (bm 17 32767) rfl rfl HT_.out ?_
  refine pP (i := 15) (N := some 104) (bm 17 65535) rfl rfl HT_.out ?_
  refine last_ (i := 16) (N := none) (bm 17 131071) rfl rfl (one_of HT_.out (by kernel_rfl)) (by decide) (fun K hK => ?_)
  refine skip_ (w1 := ?_) (by rfl) rfl ?_ ?_
  rotate_left
  ·go_simp
   rfl
  refine hK.out _ _ ?_
  clear hK K
  refine done_ (done_of HT_.out (by kernel_rfl)) ?_
  try go_wp2_with (first | ((with_reducible refine gate_callee (f := 41) rfl ?_); refine goesL_ (some 108) rfl rfl Try.func41 (by kernel_rfl) rfl #[.slice (some ad406) l2.length c2, .slice (some ⟨go55, 0, none⟩) zh.length z4] rfl (by (try simp only [List.map_toArray, List.map_cons, List.map_nil]); first | done | (rw [show zh.length = l4.length from (Kd.R_reads' HQ60.out).1.symm] <;> rfl) | rfl | (simp only [List.length_drop, List.length_take]; rfl)) ?_; (with_reducible refine (walk_Place.calls k _ _ l2 _ _ zh t409 t410 _ ?s1 ?s2 ?s3 ?s4 A56.out).mono ?_); (case s1 => exact Kd.C_kept_now HR2.out (by repeat (first | (with_reducible first | exact HK.out | apply Kept.alloc | apply Kept.drewN | apply Kept.drew | refine Kept.setCell ?_ HMgo55.out _ | refine Kept.setCell ?_ (.inr zc.out) _) | exact HK.out))); (case s2 => exact HC2.out); (case s3 => refine (Kd.R_reads' (e := 3) (base := w0.heap.size) (ok := fun k_ => (P4_ k_ ∨ w.heap.size ≤ k_)) (n := l4.length) (c := z4) ?_).2.2; exact (pR HQ60.out)); (case s4 => rw [show zh.length = l4.length from (Kd.R_reads' HQ60.out).1.symm]; exact sL HO4); rintro e w' ⟨rfl, ⟨nd, rfl⟩⟩; refine ⟨_, rfl, ?_⟩))
  go_ret
  exact ⟨pE, pR HQ60.out, qB2 HB GB55 zd, by repeat (first | (with_reducible first | exact HK.out | apply Kept.alloc | apply Kept.drewN | apply Kept.drew | refine Kept.setCell ?_ HMgo55.out _ | refine Kept.setCell ?_ (.inr zc.out) _) | exact HK.out)⟩
 rw [if_pos c26] at H
 have c26b0 : (a0 == 35) = true := beq_iff_eq.mpr c26
 have c26b1 : (a0 != 35) = false := bne_eq_false_iff_eq.mpr c26
 clear c26
 by_cases c27 : 0 ≤ a1_0
 rotate_left
 ·rw [if_neg c27] at H
  exact absurd H (by simp)
 rw [if_pos c27] at H
 have c27b0 : decide (0 ≤ a1_0) = true := decide_eq_true c27
 clear c27
 by_cases c28 : a1_0 < (l4.length : Int)
 rotate_left
 ·rw [if_neg c28] at H
  exact absurd H (by simp)
 rw [if_pos c28] at H
 have c28b0 : decide (a1_0 < (l4.length : Int)) = true := decide_eq_true c28
 clear c28
 obtain ⟨ze, zm⟩ : ∃ y_ : List Int, y_ = (l4.set (a1_0 : Int).toNat (wrap64 (a1_1 + (wrap64 ((rd l4 a1_0) * a1_3))))) := ⟨_, rfl⟩
 replace H : (if a1_2 = 1 then ((some (ze.set (a1_0 : Int).toNat a1_1 : List Int)).bind fun zg => ((walk_Place.f k l2 zg).bind fun bt400 => (some (bt400.1, zg)))) else ((walk_Place.f k l2 ze).bind fun bt402 => (some (bt402.1, ze)))) = some (r1, r2) := pH zm H
 have zr := aM zm
 clear zm
 by_cases c30 : a1_2 = 1
 rotate_left
 ·rw [if_neg c30] at H
  have c30b0 : (a1_2 == 1) = false := beq_eq_false_iff_ne.mpr c30
  have c30b1 : (a1_2 != 1) = true := bne_iff_ne.mpr c30
  replace H := Option.bind_eq_some_iff.mp H
  obtain ⟨⟨t402, t403⟩, z8, H⟩ := H
  try dsimp only at H
  have A41 := aM z8
  clear z8
  simp only [Option.some.injEq, Prod.mk.injEq] at H
  obtain ⟨rfl, rfl⟩ := H
  go_enter Try.func40, Try.ntmps40
  try go_wp2_with (first | ((with_reducible refine gate_dst (N := 7) rfl ?_); refine box_event ?hg (N := 7) ?hd (cs := #[.int .i64 a1_0, .int .i64 a1_1, .int .i64 a1_2, .int .i64 a1_3, .int .i64 a1_4, .int .i64 a1_5, .int .i64 a1_6, .int .i64 a1_7, .bool a1_8, .slice A1_9 l1_9.length c1_9]) (t := 24) ?hr ?_; (case hd => rfl); (case hg => rfl); (case hr => first | (go_simp; done) | (go_simp; rfl)); intro zb hg w42 hbox hb; replace HO4 := bR HO4 hb; have za := aM (hbox); have zc := aM ((by rw [hg]; exact (by first | exact HK.out.1 | exact (show Kept w _ (fun k_ => P4_ k_) from by repeat (first | (with_reducible first | exact HK.out | apply Kept.alloc | apply Kept.drewN | apply Kept.drew) | exact HK.out)).1) : w.heap.size ≤ zb)); replace HK := aM (Kept.below (S := (fun k_ => P4_ k_)) (by repeat (first | (with_reducible first | exact HK.out | apply Kept.alloc | apply Kept.drewN | apply Kept.drew) | exact HK.out)) hb); have zd := gE (w := w0) hg (qB HB); replace HB := bS (qB HB) hb; clear hb hbox hg))
  replace HO4 := aM (Kd.R_drew HO4.out)
  replace za := aM (blk_drew za.out)
  replace HK := aM (Kept.drew HK.out)
  replace HB := aM (below_drew1 HB.out)
  obtain ⟨Ao44, z9, zaa⟩ := Kd.R_slice HO4.out
  (first | subst zaa | (injection zaa with f1_ f2_ f3_; have f4_ := f1_.symm; have f5_ := f3_.symm; clear f1_ f2_ f3_; subst f4_; subst f5_))
  have p397 : 0 ≤ (a1_0 : Int) := of_decide_eq_true pD
  have q397 : a1_0 < (l4.length : Int) := of_decide_eq_true pD
  obtain ⟨ad397, e397, hx397_0⟩ := Kd.at_int (Kd.R_reads' HO4.out).2.2 a1_0 p397 q397
  cases e397
  replace p397 := eq_true p397
  replace q397 := eq_true q397
  have p29 : 0 ≤ (a1_0 : Int) := of_decide_eq_true pD
  have q29 : (a1_0 : Int) < ((l4.length : Int) : Int) := of_decide_eq_true pD
  obtain ⟨go29, co29, zn, zo, gl29, cl29, HG29⟩ := Kd.R_form HO4.out (by omega)
  (first | cases zn | (injection zn with ea_ en_ ec_; (first | subst ea_ | (injection ea_ with ea_; subst ea_)); subst ec_; clear en_))
  have GB29 := aM zo
  have GG29 := aM HG29
  clear zo gl29 HG29
  have HMgo29 := aM (show (P4_ go29 ∨ w.heap.size ≤ go29) from (HO4.out.1 _ rfl))
  (first | simp only [add_plain] at hx397_0 | skip)
  obtain ⟨hx29_0, hf29_0⟩ := Kd.R_celln 0 HO4.out (a1_0 : Int) p29 q29
  replace p29 := eq_true p29
  replace q29 := eq_true q29
  have HP45 := Kd.R_putn HO4.out (a1_0 : Int) (wrap64 (a1_1 + (wrap64 ((rd l4 a1_0) * a1_3))))
  rw [← zr.out] at HP45
  have HQ45 := aM HP45
  clear HP45
  refine start_ (n := 16) (S := fun w' => w'.cell? ⟨zb, 0, none⟩ = some (.int .i64 a1_0) ∧ w'.cell? ⟨zb, 1, none⟩ = some (.int .i64 a1_1) ∧ w'.cell? ⟨zb, 2, none⟩ = some (.int .i64 a1_2) ∧ w'.cell? ⟨zb, 3, none⟩ = some (.int .i64 a1_3) ∧ w'.cell? ⟨zb, 4, none⟩ = some (.int .i64 a1_4) ∧ w'.cell? ⟨zb, 5, none⟩ = some (.int .i64 a1_5) ∧ w'.cell? ⟨zb, 6, none⟩ = some (.int .i64 a1_6) ∧ w'.cell? ⟨zb, 7, none⟩ = some (.int .i64 a1_7) ∧ w'.cell? ⟨zb, 8, none⟩ = some (.bool a1_8) ∧ w'.cell? ⟨zb, 9, none⟩ = some (.slice A1_9 l1_9.length c1_9) ∧ w'.cell? ⟨go29, (a1_0).toNat, none⟩ = some (.int .i64 (rd l4 a1_0))) (ds := [15]) (bm 16 0) (by kernel_rfl) rfl rfl ⟨(blk_cell za.out 0).trans rfl, (blk_cell za.out 1).trans rfl, (blk_cell za.out 2).trans rfl, (blk_cell za.out 3).trans rfl, (blk_cell za.out 4).trans rfl, (blk_cell za.out 5).trans rfl, (blk_cell za.out 6).trans rfl, (blk_cell za.out 7).trans rfl, (blk_cell za.out 8).trans rfl, (blk_cell za.out 9).trans rfl, hx397_0⟩ (fun hHeld => ?_); refine with_tabW move_seen.tab12 move_seen.bits12 (fun HT_ HW_ => ?_)
  generalize w42.drew = w43 at HO4 za HK HB GG29 HQ45 hf29_0 hx29_0 hx397_0 hHeld ⊢
  refine pP (i := 0) (N := some 48) (bm 16 1) rfl rfl HT_.out ?_
  refine pP (i := 1) (N := some 49) (bm 16 3) rfl rfl HT_.out ?_
  refine pP (i := 3) (N := some 51) (bm 16 11) rfl rfl HT_.out ?_
  refine pP (i := 5) (N := some 53) (bm 16 43) rfl rfl HT_.out ?_
  refine pP (i := 6) (N := some 54) (bm 16 107) rfl rfl HT_.out ?_
  refine pP (i := 10) (N := some 58) (bm 16 1131) rfl rfl HT_.out ?_
  refine pT (i := 2) (N := some 50) (bm 16 1135) rfl rfl HT_.out HW_.out hHeld (by rintro w' ⟨s0, s1, s2, s3, s4, s5, s6, s7, s8, s9, s10⟩; go_simp; with_reducible rfl) ?_
  refine pT (i := 4) (N := some 52) (bm 16 1151) rfl rfl HT_.out HW_.out hHeld (by rintro w' ⟨s0, s1, s2, s3, s4, s5, s6, s7, s8, s9, s10⟩; go_simp; with_reducible rfl) ?_
  refine pT (i := 7) (N := some 55) (bm 16 1279) rfl rfl HT_.out HW_.out hHeld (by rintro w' ⟨s0, s1, s2, s3, s4, s5, s6, s7, s8, s9, s10⟩; go_simp; with_reducible rfl) ?_
  refine pP (i := 8) (N := some 56) (bm 16 1535) rfl rfl HT_.out ?_
  refine pT (i := 9) (N := some 57) (bm 16 2047) rfl rfl HT_.out HW_.out hHeld (by rintro w' ⟨s0, s1, s2, s3, s4, s5, s6, s7, s8, s9, s10⟩; go_simp; with_reducible rfl) ?_
  refine pT (i := 11) (N := some 59) (bm 16 4095) rfl rfl HT_.out HW_.out hHeld (by rintro w' ⟨s0, s1, s2, s3, s4, s5, s6, s7, s8, s9, s10⟩; go_simp; with_reducible rfl) ?_
  refine pP (i := 12) (N := some 60) (bm 16 8191) rfl rfl HT_.out ?_
  refine pP (i := 13) (N := some 61) (bm 16 16383) rfl rfl HT_.out ?_
  refine pP (i := 14) (N := some 62) (bm 16 32767) rfl rfl HT_.out ?_
  refine last_ (i := 15) (N := none) (bm 16 65535) rfl rfl (one_of HT_.out (by kernel_rfl)) (by decide) (fun K hK => ?_)
  refine skip_ (w1 := ?_) (by rfl) rfl ?_ ?_
  rotate_left
  ·go_simp
   rfl
  refine hK.out _ _ ?_
  clear hK K
  refine done_ (done_of HT_.out (by kernel_rfl)) ?_
  have hne_ : go29 ≠ zb := by have h_ := Kd.R_ne HO4.out za.out (by decide); intro e_; exact h_ (by rw [e_]; rfl)
  have hne2_ : zb ≠ go29 := fun e_ => hne_ e_.symm
  obtain ⟨hcz46_0, hcz46_1, hcz46_2, hcz46_3, hcz46_4, hcz46_5, hcz46_6, hcz46_7, hcz46_8, hcz46_9, hfz46_0, hfz46_1, hfz46_2, hfz46_3, hfz46_4, hfz46_5, hfz46_6, hfz46_7, hfz46_8, hfz46_9⟩ := blk10 za.out
  try go_wp2_with (first | ((with_reducible refine gate_callee (f := 41) rfl ?_); refine goesL_ (some 75) rfl rfl Try.func41 (by kernel_rfl) rfl #[.slice A2 l2.length c2, .slice (some ⟨go29, 0, none⟩) ze.length z9] rfl (by (try simp only [List.map_toArray, List.map_cons, List.map_nil]); first | done | (rw [show ze.length = l4.length from (Kd.R_reads' HQ45.out).1.symm] <;> rfl) | rfl | (simp only [List.length_drop, List.length_take]; rfl)) ?_; (with_reducible refine (walk_Place.calls k _ _ l2 _ _ ze t402 t403 _ ?s1 ?s2 ?s3 ?s4 A41.out).mono ?_); (case s1 => exact Kd.C_kept_now HR2.out (by repeat (first | (with_reducible first | exact HK.out | apply Kept.alloc | apply Kept.drewN | apply Kept.drew | refine Kept.setCell ?_ HMgo29.out _ | refine Kept.setCell ?_ (.inr zc.out) _) | exact HK.out))); (case s2 => exact HC2.out); (case s3 => refine (Kd.R_reads' (e := 3) (base := w0.heap.size) (ok := fun k_ => (P4_ k_ ∨ w.heap.size ≤ k_)) (n := l4.length) (c := z9) ?_).2.2; exact (pR HQ45.out)); (case s4 => rw [show ze.length = l4.length from (Kd.R_reads' HQ45.out).1.symm]; exact sL HO4); rintro e w' ⟨rfl, ⟨nd, rfl⟩⟩; refine ⟨_, rfl, ?_⟩))
  go_ret
  exact ⟨pE, pR HQ45.out, qB2 HB GB29 zd, by repeat (first | (with_reducible first | exact HK.out | apply Kept.alloc | apply Kept.drewN | apply Kept.drew | refine Kept.setCell ?_ HMgo29.out _ | refine Kept.setCell ?_ (.inr zc.out) _) | exact HK.out)⟩
 rw [if_pos c30] at H
 have c30b0 : (a1_2 == 1) = true := beq_iff_eq.mpr c30
 have c30b1 : (a1_2 != 1) = false := bne_eq_false_iff_eq.mpr c30
 clear c30
 obtain ⟨zg, zp⟩ : ∃ y_ : List Int, y_ = (ze.set (a1_0 : Int).toNat a1_1) := ⟨_, rfl⟩
 replace H : ((walk_Place.f k l2 zg).bind fun bt400 => (some (bt400.1, zg))) = some (r1, r2) := pH zp H
 have Ny399 := aM zp
 clear zp
 replace H := Option.bind_eq_some_iff.mp H
 obtain ⟨⟨t400, t401⟩, zab, H⟩ := H
 try dsimp only at H
 have A32 := aM zab
 clear zab
 simp only [Option.some.injEq, Prod.mk.injEq] at H
 obtain ⟨rfl, rfl⟩ := H
 go_enter Try.func40, Try.ntmps40
 try go_wp2_with (first | ((with_reducible refine gate_dst (N := 7) rfl ?_); refine box_event ?hg (N := 7) ?hd (cs := #[.int .i64 a1_0, .int .i64 a1_1, .int .i64 a1_2, .int .i64 a1_3, .int .i64 a1_4, .int .i64 a1_5, .int .i64 a1_6, .int .i64 a1_7, .bool a1_8, .slice A1_9 l1_9.length c1_9]) (t := 24) ?hr ?_; (case hd => rfl); (case hg => rfl); (case hr => first | (go_simp; done) | (go_simp; rfl)); intro zb hg w33 hbox hb; replace HO4 := bR HO4 hb; have za := aM (hbox); have zc := aM ((by rw [hg]; exact (by first | exact HK.out.1 | exact (show Kept w _ (fun k_ => P4_ k_) from by repeat (first | (with_reducible first | exact HK.out | apply Kept.alloc | apply Kept.drewN | apply Kept.drew) | exact HK.out)).1) : w.heap.size ≤ zb)); replace HK := aM (Kept.below (S := (fun k_ => P4_ k_)) (by repeat (first | (with_reducible first | exact HK.out | apply Kept.alloc | apply Kept.drewN | apply Kept.drew) | exact HK.out)) hb); have zd := gE (w := w0) hg (qB HB); replace HB := bS (qB HB) hb; clear hb hbox hg))
 replace HO4 := aM (Kd.R_drew HO4.out)
 replace za := aM (blk_drew za.out)
 replace HK := aM (Kept.drew HK.out)
 replace HB := aM (below_drew1 HB.out)
 obtain ⟨Ao35, zu, zac⟩ := Kd.R_slice HO4.out
 (first | subst zac | (injection zac with f1_ f2_ f3_; have f4_ := f1_.symm; have f5_ := f3_.symm; clear f1_ f2_ f3_; subst f4_; subst f5_))
 have p397 : 0 ≤ (a1_0 : Int) := of_decide_eq_true pD
 have q397 : a1_0 < (l4.length : Int) := of_decide_eq_true pD
 obtain ⟨ad397, e397, hx397_0⟩ := Kd.at_int (Kd.R_reads' HO4.out).2.2 a1_0 p397 q397
 cases e397
 replace p397 := eq_true p397
 replace q397 := eq_true q397
 have p29 : 0 ≤ (a1_0 : Int) := of_decide_eq_true pD
 have q29 : (a1_0 : Int) < ((l4.length : Int) : Int) := of_decide_eq_true pD
 obtain ⟨go29, co29, zn, zo, gl29, cl29, HG29⟩ := Kd.R_form HO4.out (by omega)
 (first | cases zn | (injection zn with ea_ en_ ec_; (first | subst ea_ | (injection ea_ with ea_; subst ea_)); subst ec_; clear en_))
 have GB29 := aM zo
 have GG29 := aM HG29
 clear zo gl29 HG29
 have HMgo29 := aM (show (P4_ go29 ∨ w.heap.size ≤ go29) from (HO4.out.1 _ rfl))
 (first | simp only [add_plain] at hx397_0 | skip)
 obtain ⟨hx29_0, hf29_0⟩ := Kd.R_celln 0 HO4.out (a1_0 : Int) p29 q29
 replace p29 := eq_true p29
 replace q29 := eq_true q29
 have HP36 := Kd.R_putn HO4.out (a1_0 : Int) (wrap64 (a1_1 + (wrap64 ((rd l4 a1_0) * a1_3))))
 rw [← zr.out] at HP36
 have HQ36 := aM HP36
 clear HP36
 refine start_ (n := 16) (S := fun w' => w'.cell? ⟨zb, 0, none⟩ = some (.int .i64 a1_0) ∧ w'.cell? ⟨zb, 1, none⟩ = some (.int .i64 a1_1) ∧ w'.cell? ⟨zb, 2, none⟩ = some (.int .i64 a1_2) ∧ w'.cell? ⟨zb, 3, none⟩ = some (.int .i64 a1_3) ∧ w'.cell? ⟨zb, 4, none⟩ = some (.int .i64 a1_4) ∧ w'.cell? ⟨zb, 5, none⟩ = some (.int .i64 a1_5) ∧ w'.cell? ⟨zb, 6, none⟩ = some (.int .i64 a1_6) ∧ w'.cell? ⟨zb, 7, none⟩ = some (.int .i64 a1_7) ∧ w'.cell? ⟨zb, 8, none⟩ = some (.bool a1_8) ∧ w'.cell? ⟨zb, 9, none⟩ = some (.slice A1_9 l1_9.length c1_9) ∧ w'.cell? ⟨go29, (a1_0).toNat, none⟩ = some (.int .i64 (rd l4 a1_0))) (ds := [15]) (bm 16 0) (by kernel_rfl) rfl rfl ⟨(blk_cell za.out 0).trans rfl, (blk_cell za.out 1).trans rfl, (blk_cell za.out 2).trans rfl, (blk_cell za.out 3).trans rfl, (blk_cell za.out 4).trans rfl, (blk_cell za.out 5).trans rfl, (blk_cell za.out 6).trans rfl, (blk_cell za.out 7).trans rfl, (blk_cell za.out 8).trans rfl, (blk_cell za.out 9).trans rfl, hx397_0⟩ (fun hHeld => ?_); refine with_tabW move_seen.tab12 move_seen.bits12 (fun HT_ HW_ => ?_)
 generalize w33.drew = w34 at HO4 za HK HB GG29 HQ36 hf29_0 hx29_0 hx397_0 hHeld ⊢
 refine pP (i := 0) (N := some 48) (bm 16 1) rfl rfl HT_.out ?_
 refine pP (i := 1) (N := some 49) (bm 16 3) rfl rfl HT_.out ?_
 refine pP (i := 3) (N := some 51) (bm 16 11) rfl rfl HT_.out ?_
 refine pP (i := 5) (N := some 53) (bm 16 43) rfl rfl HT_.out ?_
 refine pP (i := 6) (N := some 54) (bm 16 107) rfl rfl HT_.out ?_
 refine pP (i := 10) (N := some 58) (bm 16 1131) rfl rfl HT_.out ?_
 refine pT (i := 2) (N := some 50) (bm 16 1135) rfl rfl HT_.out HW_.out hHeld (by rintro w' ⟨s0, s1, s2, s3, s4, s5, s6, s7, s8, s9, s10⟩; go_simp; with_reducible rfl) ?_
 refine pT (i := 4) (N := some 52) (bm 16 1151) rfl rfl HT_.out HW_.out hHeld (by rintro w' ⟨s0, s1, s2, s3, s4, s5, s6, s7, s8, s9, s10⟩; go_simp; with_reducible rfl) ?_
 refine pT (i := 7) (N := some 55) (bm 16 1279) rfl rfl HT_.out HW_.out hHeld (by rintro w' ⟨s0, s1, s2, s3, s4, s5, s6, s7, s8, s9, s10⟩; go_simp; with_reducible rfl) ?_
 refine pP (i := 8) (N := some 56) (bm 16 1535) rfl rfl HT_.out ?_
 refine pT (i := 9) (N := some 57) (bm 16 2047) rfl rfl HT_.out HW_.out hHeld (by rintro w' ⟨s0, s1, s2, s3, s4, s5, s6, s7, s8, s9, s10⟩; go_simp; with_reducible rfl) ?_
 refine pT (i := 11) (N := some 59) (bm 16 4095) rfl rfl HT_.out HW_.out hHeld (by rintro w' ⟨s0, s1, s2, s3, s4, s5, s6, s7, s8, s9, s10⟩; go_simp; with_reducible rfl) ?_
 refine pP (i := 12) (N := some 60) (bm 16 8191) rfl rfl HT_.out ?_
 refine pP (i := 13) (N := some 61) (bm 16 16383) rfl rfl HT_.out ?_
 refine pP (i := 14) (N := some 62) (bm 16 32767) rfl rfl HT_.out ?_
 refine last_ (i := 15) (N := none) (bm 16 65535) rfl rfl (one_of HT_.out (by kernel_rfl)) (by decide) (fun K hK => ?_)
 refine skip_ (w1 := ?_) (by rfl) rfl ?_ ?_
 rotate_left
 ·go_simp
  rfl
 refine hK.out _ _ ?_
 clear hK K
 refine done_ (done_of HT_.out (by kernel_rfl)) ?_
 have n0_ : Aside0 (Kd.R (Kd.int .i64) 3 (w34.setCell ⟨go29, (a1_0 : Int).toNat, none⟩ (.int .i64 (wrap64 (a1_1 + (wrap64 ((rd l4 a1_0) * a1_3)))))) w0.heap.size (fun k_ => (P4_ k_ ∨ w.heap.size ≤ k_)) (.slice (some ⟨go29, 0, none⟩) l4.length zu) ze) := ⟨pR HQ36.out⟩
 have n1_ : Aside0 ((w34.setCell ⟨go29, (a1_0 : Int).toNat, none⟩ (.int .i64 (wrap64 (a1_1 + (wrap64 ((rd l4 a1_0) * a1_3)))))).heap[zb]? = some (.cells #[.int .i64 a1_0, .int .i64 a1_1, .int .i64 a1_2, .int .i64 a1_3, .int .i64 a1_4, .int .i64 a1_5, .int .i64 a1_6, .int .i64 a1_7, .bool a1_8, .slice A1_9 l1_9.length c1_9] 24 (0, 0))) := ⟨by (with_reducible repeat (first | apply bN | apply bD | apply bA)); refine blk_far ?_ (by have h_ := Kd.R_ne HO4.out za.out (by decide); intro e_; exact h_ (by rw [e_]; rfl)) _; (with_reducible repeat (first | apply bN | apply bD | apply bA)); exact za.out⟩
 have n2_ : Aside0 (Kept w (w34.setCell ⟨go29, (a1_0 : Int).toNat, none⟩ (.int .i64 (wrap64 (a1_1 + (wrap64 ((rd l4 a1_0) * a1_3)))))) (fun k_ => P4_ k_)) := ⟨by repeat (first | (with_reducible first | exact HK.out | apply Kept.alloc | apply Kept.drewN | apply Kept.drew | refine Kept.setCell ?_ HMgo29.out _ | refine Kept.setCell ?_ (.inr zc.out) _) | exact HK.out)⟩
 have n3_ : Aside0 (Below w0.heap.size w0 (w34.setCell ⟨go29, (a1_0 : Int).toNat, none⟩ (.int .i64 (wrap64 (a1_1 + (wrap64 ((rd l4 a1_0) * a1_3))))))) := ⟨qB2 HB GB29 zd⟩
 (try clear HO4)
 (try clear za)
 (try clear HK)
 (try clear HB)
 generalize (w34.setCell ⟨go29, (a1_0 : Int).toNat, none⟩ (.int .i64 (wrap64 (a1_1 + (wrap64 ((rd l4 a1_0) * a1_3)))))) = w37 at n0_ n1_ n2_ n3_ ⊢
 have HO4 := n0_
 have za := n1_
 have HK := n2_
 have HB := n3_
 clear n0_ n1_ n2_ n3_
 obtain ⟨hcz38_0, hcz38_1, hcz38_2, hcz38_3, hcz38_4, hcz38_5, hcz38_6, hcz38_7, hcz38_8, hcz38_9, hfz38_0, hfz38_1, hfz38_2, hfz38_3, hfz38_4, hfz38_5, hfz38_6, hfz38_7, hfz38_8, hfz38_9⟩ := blk10 za.out
 have p31 : 0 ≤ (a1_0 : Int) := of_decide_eq_true pD
 have q31 : (a1_0 : Int) < ((l4.length : Int) : Int) := of_decide_eq_true pD
 replace p31 := eq_true p31
 replace q31 := eq_true q31
 obtain ⟨hy39_, hz39_⟩ := Kd.R_celln 0 HO4.out (a1_0 : Int) (of_decide_eq_true pD) (of_decide_eq_true pD)
 have HP39 := Kd.R_putg HO4.out (a1_0 : Int) a1_1
 try go_wp2_with (first | ((with_reducible refine gate_store (t := 3) (p := 71) rfl ?_); refine store_event (t := 3) (p := 71) (v := ?vo_w40) (w1 := (w37.setCell ⟨go29, (a1_0 : Int).toNat, none⟩ (.int .i64 a1_1))) ?hg ?ho ?hn ?hr ?_; (case ho => rfl); (case hg => rfl); (case hn => rfl); (case hr => first | (go_simp; done) | (go_simp; rfl)); intro w40 hw; have hg : w37.grownBy w40 (some go29) := (by rw [hw]; exact HP39.2); have hp_ : Kd.R (Kd.int .i64) 3 w40 w0.heap.size (fun k_ => (P4_ k_ ∨ w.heap.size ≤ k_)) (.slice (some ⟨go29, 0, none⟩) l4.length zu) zg := (by rw [hw, Ny399.out]; exact HP39.1); clear HP39; replace za := aM (blk_grown (g := zb) (pK za.out) hg (Kd.R_ne HO4.out za.out (by decide))); replace HB := aM ((by rw [hw]; exact below_set (HB.out) GB29.out : Below w0.heap.size w0 w40)); replace HK := aM (Kept.of_grown (S := (fun k_ => P4_ k_)) hg (by repeat (first | (with_reducible first | exact HK.out | apply Kept.alloc | apply Kept.drewN | apply Kept.drew | refine Kept.setCell ?_ (.inr zc.out) _) | exact HK.out)) (fun k_ e_ => (HO4.out.1 k_ e_))); replace HO4 := aM (hp_); clear hg hw hp_) | ((with_reducible refine gate_callee (f := 41) rfl ?_); refine goesL_ (some 75) rfl rfl Try.func41 (by kernel_rfl) rfl #[.slice A2 l2.length c2, .slice (some ⟨go29, 0, none⟩) zg.length zu] rfl (by (try simp only [List.map_toArray, List.map_cons, List.map_nil]); first | done | (rw [show zg.length = l4.length from (Kd.R_reads' HO4.out).1.symm] <;> rfl) | rfl | (simp only [List.length_drop, List.length_take]; rfl)) ?_; (with_reducible refine (walk_Place.calls k _ _ l2 _ _ zg t400 t401 _ ?s1 ?s2 ?s3 ?s4 A32.out).mono ?_); (case s1 => exact Kd.C_kept_now HR2.out (by repeat (first | (with_reducible first | exact HK.out | apply Kept.alloc | apply Kept.drewN | apply Kept.drew | refine Kept.setCell ?_ (.inr zc.out) _) | exact HK.out))); (case s2 => exact HC2.out); (case s3 => exact sR HO4); (case s4 => rw [show zg.length = l4.length from (Kd.R_reads' HO4.out).1.symm]; exact sL HO4); rintro e w' ⟨rfl, ⟨nd, rfl⟩⟩; refine ⟨_, rfl, ?_⟩))
 go_ret
 exact ⟨pE, pR HO4.out, qB1 HB zd, by repeat (first | (with_reducible first | exact HK.out | apply Kept.alloc | apply Kept.drewN | apply Kept.drew | refine Kept.setCell ?_ (.inr zc.out) _) | exact HK.out)⟩
def move_From.j0 : Nat → Int → List (List Int) → Int → List Int → List Int → Bool → Int → Int → Int → Int → Int → Int → Int → Int → Bool → List Int → Option (Int × Int × Bool)
 | 0, _, _, _, _, _, _, _, _, _, _, _, _, _, _, _, _ => none
 | k + 1, x0, x2, x3, x11, x13, x41, ze, x412001, x412002, x412003, x412004, x412005, x412006, x412007, x412008, zk => if x41 = true then (some (0, 0, false)) else (if x0 = 38 then (if 0 ≤ ze then (if ze < (x13.length : Int) then (if 0 ≤ (rd x13 ze) then (if (rd x13 ze) < (zk.length : Int) then (if 0 < (x2.length : Int) then ((walk_Place.f k (rd_L1 x2 0) (x13.set (ze : Int).toNat (rd zk (rd x13 ze)))).bind fun bt424 => (some (0, bt424.1, true))) else (none)) else (none)) else (none)) else (none)) else (none)) else (if x0 = 40 then (if 0 < (x2.length : Int) then (if 0 ≤ ze then (if ze < ((rd_L1 x2 0).length : Int) then (if ze < (x13.length : Int) then (if (rd x13 ze) ≥ (rd (rd_L1 x2 0) ze) then (if 1 < (x2.length : Int) then ((walk_Place.f k (rd_L1 x2 1) (x13.set (ze : Int).toNat (wrap64 ((rd x13 ze) - (rd (rd_L1 x2 0) ze))))).bind fun bt432 => (some (1, bt432.1, true))) else (none)) else ((walk_Place.f k (rd_L1 x2 0) x13).bind fun bt435 => (some (0, bt435.1, true)))) else (none)) else (none)) else (none)) else (none)) else (if 0 < (x2.length : Int) then ((move_seen.f k x0 ze x412001 x412002 x412003 x412004 x412005 x412006 x412007 x412008 zk (rd_L1 x2 0) x11 x13 x3).bind fun bt438 => (some (0, bt438.1, true))) else (none))))
def move_From.f (k : Nat) (a0 : Int) (a1_0 : Int) (a1_1 : Int) (a1_2 : Int) (a1_3 : Int) (a1_4 : Int) (a1_5 : Int) (a1_6 : Int) (a1_7 : Int) (a1_8 : Bool) (l1_9 : List Int) (l2 : List (List Int)) (a3 : Int) : Option (Int × Int × Bool) := (move_Dims.f k a0 a1_0 a1_1 a1_2 a1_3 a1_4 a1_5 a1_6 a1_7 a1_8 l1_9 l2).bind fun bt412 => ((walk_At.f k bt412.1 a3).bind fun bt416 => (if bt412.2 = 0 then (if bt416.2 = true then (move_From.j0 k a0 l2 a3 bt412.1 bt416.1 (a0 == 39) a1_0 a1_1 a1_2 a1_3 a1_4 a1_5 a1_6 a1_7 a1_8 l1_9) else (move_From.j0 k a0 l2 a3 bt412.1 bt416.1 true a1_0 a1_1 a1_2 a1_3 a1_4 a1_5 a1_6 a1_7 a1_8 l1_9)) else (move_From.j0 k a0 l2 a3 bt412.1 bt416.1 true a1_0 a1_1 a1_2 a1_3 a1_4 a1_5 a1_6 a1_7 a1_8 l1_9)))
def move_From.T7 : Bool × List (List Nat × List Nat) := (true, [([], []), ([], []), ([], []), ([2], [2]), ([3], [3]), ([], []), ([], []), ([], []), ([0, 1, 4, 5, 6, 7], [0, 1, 4, 5, 6, 7]), ([8], []), ([8, 9, 0, 1, 2, 3, 4, 5, 6, 7, 8, 9], [8]), ([10, 0, 1, 2, 3, 4, 5, 6, 7, 8, 9, 10], [])])
def move_From.B7 : List Nat := [0, 0, 0, 4, 12, 0, 0, 0, 255, 511, 1023, 2047]
theorem move_From.tab7 : rtab .any (opsOf Try.f15 7) = move_From.T7 := by kernel_rfl
theorem move_From.bits7 : waitsOk move_From.T7.2 move_From.B7 = true := by kernel_rfl
def move_From.T9 : Bool × List (List Nat × List Nat) := (true, [([], []), ([], []), ([1], [1]), ([], []), ([3], [3]), ([], []), ([], []), ([6], [6]), ([5, 7], [5, 7]), ([8], [8]), ([4, 9], [4, 9]), ([10], [10]), ([0, 2, 0, 1, 2, 3, 4, 5, 6, 7, 8, 9, 10, 11], [0, 2]), ([12, 11, 0, 1, 2, 3, 4, 5, 6, 7, 8, 9, 10, 11], [11, 12])])
def move_From.B9 : List Nat := [0, 0, 2, 0, 8, 0, 0, 64, 224, 480, 1016, 2040, 4095, 8191]
theorem move_From.tab9 : rtab .any (opsOf Try.f15 9) = move_From.T9 := by kernel_rfl
theorem move_From.bits9 : waitsOk move_From.T9.2 move_From.B9 = true := by kernel_rfl
def move_From.T11 : Bool × List (List Nat × List Nat) := (true, [([], []), ([0], [0]), ([1], [1]), ([], []), ([3], [3]), ([2, 4], [2, 4]), ([5], [5]), ([6, 0, 1, 2, 3, 4, 5, 6], [6])])
def move_From.B11 : List Nat := [0, 1, 3, 0, 8, 31, 63, 127]
theorem move_From.tab11 : rtab .any (opsOf Try.f15 11) = move_From.T11 := by kernel_rfl
theorem move_From.bits11 : waitsOk move_From.T11.2 move_From.B11 = true := by kernel_rfl
set_option maxHeartbeats 8000000 in
set_option maxRecDepth 100000 in
theorem move_From.calls (k : Nat) (a0 : Int) (a1_0 : Int) (a1_1 : Int) (a1_2 : Int) (a1_3 : Int) (a1_4 : Int) (a1_5 : Int) (a1_6 : Int) (a1_7 : Int) (a1_8 : Bool) (A1_9 : Option Addr) (c1_9 : Nat) (l1_9 : List Int) (A2 : Option Addr) (c2 : Nat) (l2 : List (List Int)) (a3 : Int) (r1 : Int) (r2 : Int) (r3 : Bool) (w : World) (hr1_9 : Kd.C (Kd.int .i64) w A1_9 l1_9.length l1_9) (hc1_9 : l1_9.length ≤ c1_9) (hr2 : Kd.C (Kd.slice 3 (Kd.int .i64)) w A2 l2.length l2) (hc2 : l2.length ≤ c2) (h : move_From.f k a0 a1_0 a1_1 a1_2 a1_3 a1_4 a1_5 a1_6 a1_7 a1_8 l1_9 l2 a3 = some (r1, r2, r3)) :
  Calls Try.prog 15 #[.int .i64 a0, .agg #[.int .i64 a1_0, .int .i64 a1_1, .int .i64 a1_2, .int .i64 a1_3, .int .i64 a1_4, .int .i64 a1_5, .int .i64 a1_6, .int .i64 a1_7, .bool a1_8, .slice A1_9 l1_9.length c1_9], .slice A2 l2.length c2, .int .i64 a3] w fun e w' => e = .returned (.tuple #[.int .i64 r1, .int .i64 r2, .bool r3]) ∧ Below w.heap.size w w' := by
 have hu24 := Try.underlying24
 have zr := aM hr1_9
 have zz := aM hc1_9
 clear hr1_9 hc1_9
 have HR2 := aM hr2
 have HC2 := aM hc2
 clear hr2 hc2
 have HB := aM (Below.refl w.heap.size w)
 have H : ((move_Dims.f k a0 a1_0 a1_1 a1_2 a1_3 a1_4 a1_5 a1_6 a1_7 a1_8 l1_9 l2).bind fun bt412 => ((walk_At.f k bt412.1 a3).bind fun bt416 => (if bt412.2 = 0 then (if bt416.2 = true then (move_From.j0 k a0 l2 a3 bt412.1 bt416.1 (a0 == 39) a1_0 a1_1 a1_2 a1_3 a1_4 a1_5 a1_6 a1_7 a1_8 l1_9) else (move_From.j0 k a0 l2 a3 bt412.1 bt416.1 true a1_0 a1_1 a1_2 a1_3 a1_4 a1_5 a1_6 a1_7 a1_8 l1_9)) else (move_From.j0 k a0 l2 a3 bt412.1 bt416.1 true a1_0 a1_1 a1_2 a1_3 a1_4 a1_5 a1_6 a1_7 a1_8 l1_9)))) = some (r1, r2, r3) := h
 clear h
 replace H := Option.bind_eq_some_iff.mp H
 obtain ⟨⟨zj, zn⟩, A50, H⟩ := H
 try dsimp only at H
 have A5 := aM A50
 clear A50
 replace H := Option.bind_eq_some_iff.mp H
 obtain ⟨⟨zd, z0⟩, A60, H⟩ := H
 try dsimp only at H
 have A6 := aM A60
 clear A60
 have HC7 := aM H
 clear H
 go_enter Try.func15, Try.ntmps15
 go_upto_region 3 with (first | ((with_reducible refine gate_dst (N := 5) rfl ?_); refine box_event ?hg (N := 5) ?hd (cs := #[.int .i64 a1_0, .int .i64 a1_1, .int .i64 a1_2, .int .i64 a1_3, .int .i64 a1_4, .int .i64 a1_5, .int .i64 a1_6, .int .i64 a1_7, .bool a1_8, .slice A1_9 l1_9.length c1_9]) (t := 24) ?hr ?_; (case hd => rfl); (case hg => rfl); (case hr => first | (go_simp; done) | (go_simp; rfl)); intro zb hg w8 hbox hb; have za := aM (hbox); have GW411 := gE (w := w) hg (qB HB); have zg := GW411; replace HB := bS (qB HB) hb; clear hb hbox hg; obtain ⟨hcz9_0, hcz9_1, hcz9_2, hcz9_3, hcz9_4, hcz9_5, hcz9_6, hcz9_7, hcz9_8, hcz9_9, hfz9_0, hfz9_1, hfz9_2, hfz9_3, hfz9_4, hfz9_5, hfz9_6, hfz9_7, hfz9_8, hfz9_9⟩ := blk10 za.out) | ((with_reducible refine gate_callee (f := 10) rfl ?_); refine goesL_ (some 23) rfl rfl Try.func10 (by kernel_rfl) rfl #[.int .i64 a0, .agg #[.int .i64 a1_0, .int .i64 a1_1, .int .i64 a1_2, .int .i64 a1_3, .int .i64 a1_4, .int .i64 a1_5, .int .i64 a1_6, .int .i64 a1_7, .bool a1_8, .slice A1_9 l1_9.length c1_9], .slice A2 l2.length c2] rfl pA ?_; (with_reducible refine (move_Dims.calls k a0 a1_0 a1_1 a1_2 a1_3 a1_4 a1_5 a1_6 a1_7 a1_8 _ _ l1_9 _ _ l2 zj zn _ ?s1 ?s2 ?s3 ?s4 A5.out).mono ?_); (case s1 => exact sC zr HB); (case s2 => exact zz.out); (case s3 => exact sC HR2 HB); (case s4 => exact HC2.out); rintro e w10 ⟨v413, rfl, ho0, hb⟩; refine ⟨_, rfl, ?_⟩; have zh := aM (Kd.R_lower ho0 (below_size (qB1 HB zg))); replace za := bK za hb; replace HB := bS (qB1 HB zg) hb; (try clear hb); (try clear hk); (try clear hi); (try clear ho0); obtain ⟨zo, zp, eo11⟩ := Kd.R_slice zh.out; subst eo11) | ((with_reducible refine gate_callee (f := 39) rfl ?_); refine goesL_ (some 29) rfl rfl Try.func39 (by kernel_rfl) rfl #[.slice zo zj.length zp, .int .i64 a3] rfl pA ?_; (with_reducible refine (walk_At.calls k _ _ zj a3 zd z0 _ ?s1 ?s2 A6.out).mono ?_); (case s1 => exact sR zh); (case s2 => exact sL zh); rintro e w12 ⟨z1, rfl, ho0, hb⟩; refine ⟨_, rfl, ?_⟩; have zs := aM (Kd.R_lower (Kd.R_new' ho0 (Kd.R_lt (pR zh.out))) (below_size (qB1 HB zg))); replace zh := eR zh ho0 hb; replace za := bK za hb; replace HB := bS (qB1 HB zg) hb; (try clear hb); (try clear hk); (try clear hi); (try clear ho0)))
 (try simp only [Act.put, sP])
 go_cut [41] (fun v41 wc => ∃ (kq : Nat) (x41_6 : Bool), v41 = .bool x41_6 ∧ Aside0 (move_From.j0 kq a0 l2 a3 zj zd x41_6 a1_0 a1_1 a1_2 a1_3 a1_4 a1_5 a1_6 a1_7 a1_8 l1_9 = some (r1, r2, r3)) ∧ Aside0 (kq ≤ k) ∧ Aside0 (Kd.R (Kd.int .i64) 3 wc w.heap.size (fun k_ => some k_ ≠ (z1 : Value).ownBlock) (.slice zo zj.length zp) zj) ∧ Aside0 (Kd.R (Kd.int .i64) 3 wc w.heap.size (fun k_ => some k_ ≠ ((.slice zo zj.length zp) : Value).ownBlock) z1 zd) ∧ Aside0 (wc.heap[zb]? = some (.cells #[.int .i64 a1_0, .int .i64 a1_1, .int .i64 a1_2, .int .i64 a1_3, .int .i64 a1_4, .int .i64 a1_5, .int .i64 a1_6, .int .i64 a1_7, .bool a1_8, (.slice A1_9 l1_9.length c1_9)] 24 (0, 0))) ∧ Aside0 (Below w.heap.size w wc))
 case first =>
  have H := HC7.out
  clear HC7
  by_cases c13 : zn = 0
  rotate_left
  ·rw [if_neg c13] at H
   have zl : (zn == 0) = false := beq_eq_false_iff_ne.mpr c13
   have c13b1 : (zn != 0) = true := bne_iff_ne.mpr c13
   (first | rw [zl] | (simp only [i64_w, i32_w]; rw [zl]) | skip)
   have H' := aM H
   clear H
   go_wp2
   go_meet
   case rel => exact ⟨_, (true), (pF), H', ⟨by first | omega | exact Nat.le_refl _⟩, ⟨by (with_reducible repeat (first | apply rA | apply rN | apply rD)); exact Kd.R_mono zh.out (fun _ hk => hk.2)⟩, ⟨by (with_reducible repeat (first | apply rA | apply rN | apply rD)); exact Kd.R_mono zs.out (fun _ hk => hk.2)⟩, ⟨pK za.out⟩, ⟨qB1 HB zg⟩⟩
  rw [if_pos c13] at H
  have zl : (zn == 0) = true := beq_iff_eq.mpr c13
  have c13b1 : (zn != 0) = false := bne_eq_false_iff_eq.mpr c13
  clear c13
  (first | rw [zl] | (simp only [i64_w, i32_w]; rw [zl]) | skip)
  by_cases c14 : z0 = true
  ·subst c14
   rw [if_pos rfl] at H
   have H' := aM H
   clear H
   go_wp2
   go_meet
   case rel => exact ⟨_, ((a0 == 39)), (pF), H', ⟨by first | omega | exact Nat.le_refl _⟩, ⟨by (with_reducible repeat (first | apply rA | apply rN | apply rD)); exact Kd.R_mono zh.out (fun _ hk => hk.2)⟩, ⟨by (with_reducible repeat (first | apply rA | apply rN | apply rD)); exact Kd.R_mono zs.out (fun _ hk => hk.2)⟩, ⟨pK za.out⟩, ⟨qB1 HB zg⟩⟩
  replace c14 := Bool.eq_false_iff.mpr c14
  subst c14
  rw [if_neg (show ¬ (false = true) by decide)] at H
  have H' := aM H
  clear H
  go_wp2
  go_meet
  case rel => exact ⟨_, (true), (pF), H', ⟨by first | omega | exact Nat.le_refl _⟩, ⟨by (with_reducible repeat (first | apply rA | apply rN | apply rD)); exact Kd.R_mono zh.out (fun _ hk => hk.2)⟩, ⟨by (with_reducible repeat (first | apply rA | apply rN | apply rD)); exact Kd.R_mono zs.out (fun _ hk => hk.2)⟩, ⟨pK za.out⟩, ⟨qB1 HB zg⟩⟩
 case rest =>
  clear HC7
  try clear c2
  try clear hcz9_0 hcz9_1 hcz9_2 hcz9_3 hcz9_4 hcz9_5 hcz9_6 hcz9_7 hcz9_8 hcz9_9 hfz9_0 hfz9_1 hfz9_2 hfz9_3 hfz9_4 hfz9_5 hfz9_6 hfz9_7 hfz9_8 hfz9_9
  obtain ⟨kq, x41_6, rfl, HA, HJ6, zf, zc, za, HB⟩ := hcut
  cases kq with
  | zero => exact absurd HA.out (by simp [move_From.j0])
  | succ kj6 =>
   have H := HA.out
   clear HA
   simp only [move_From.j0] at H
   by_cases c15 : x41_6 = true
   ·subst c15
    rw [if_pos rfl] at H
    simp only [Option.some.injEq, Prod.mk.injEq] at H
    obtain ⟨rfl, rfl, rfl⟩ := H
    go_wp2
    go_ret3
    exact ⟨pE, qB1 HB zg⟩
   replace c15 := Bool.eq_false_iff.mpr c15
   subst c15
   rw [if_neg (show ¬ (false = true) by decide)] at H
   by_cases c16 : a0 = 38
   ·rw [if_pos c16] at H
    have c16b0 : (a0 == 38) = true := beq_iff_eq.mpr c16
    have c16b1 : (a0 != 38) = false := bne_eq_false_iff_eq.mpr c16
    clear c16
    by_cases c17 : 0 ≤ a1_0
    rotate_left
    ·rw [if_neg c17] at H
     exact absurd H (by simp)
    rw [if_pos c17] at H
    have c17b0 : decide (0 ≤ a1_0) = true := decide_eq_true c17
    clear c17
    by_cases c18 : a1_0 < (zd.length : Int)
    rotate_left
    ·rw [if_neg c18] at H
     exact absurd H (by simp)
    rw [if_pos c18] at H
    have c18b0 : decide (a1_0 < (zd.length : Int)) = true := decide_eq_true c18
    clear c18
    by_cases c19 : 0 ≤ (rd zd a1_0)
    rotate_left
    ·rw [if_neg c19] at H
     exact absurd H (by simp)
    rw [if_pos c19] at H
    have c19b0 : decide (0 ≤ (rd zd a1_0)) = true := decide_eq_true c19
    clear c19
    by_cases c20 : (rd zd a1_0) < (l1_9.length : Int)
    rotate_left
    ·rw [if_neg c20] at H
     exact absurd H (by simp)
    rw [if_pos c20] at H
    have c20b0 : decide ((rd zd a1_0) < (l1_9.length : Int)) = true := decide_eq_true c20
    clear c20
    obtain ⟨zt, zu⟩ : ∃ y_ : List Int, y_ = (zd.set (a1_0 : Int).toNat (rd l1_9 (rd zd a1_0))) := ⟨_, rfl⟩
    replace H : (if 0 < (l2.length : Int) then ((walk_Place.f kj6 (rd_L1 l2 0) zt).bind fun bt424 => (some (0, bt424.1, true))) else (none)) = some (r1, r2, r3) := pH zu H
    have Ny422 := aM zu
    clear zu
    by_cases c22 : 0 < (l2.length : Int)
    rotate_left
    ·rw [if_neg c22] at H
     exact absurd H (by simp)
    rw [if_pos c22] at H
    have c22b0 : decide (0 < (l2.length : Int)) = true := decide_eq_true c22
    have c22b1 : decide (0 < l2.length) = true := decide_eq_true (by omega)
    clear c22
    replace H := Option.bind_eq_some_iff.mp H
    obtain ⟨⟨t424, t425⟩, z2, H⟩ := H
    try dsimp only at H
    have A23 := aM z2
    clear z2
    simp only [Option.some.injEq, Prod.mk.injEq] at H
    obtain ⟨rfl, rfl, rfl⟩ := H
    try go_wp2
    replace zf := aM (Kd.R_drew zf.out)
    replace zc := aM (Kd.R_drew zc.out)
    replace za := aM (blk_drew za.out)
    replace HB := aM (below_drew1 HB.out)
    obtain ⟨Ao25, z3, z4⟩ := Kd.R_slice zc.out
    (first | subst z4 | (injection z4 with f1_ f2_ f3_; have f4_ := f1_.symm; have f5_ := f3_.symm; clear f1_ f2_ f3_; subst f4_; subst f5_))
    have p420 : 0 ≤ (a1_0 : Int) := of_decide_eq_true pD
    have q420 : a1_0 < (zd.length : Int) := of_decide_eq_true pD
    obtain ⟨ad420, e420, hx420_0⟩ := Kd.at_int (Kd.R_reads' zc.out).2.2 a1_0 p420 q420
    cases e420
    replace p420 := eq_true p420
    replace q420 := eq_true q420
    have p421 : 0 ≤ ((rd zd a1_0) : Int) := of_decide_eq_true pD
    have q421 : (rd zd a1_0) < (l1_9.length : Int) := of_decide_eq_true pD
    obtain ⟨ad421, e421, hx421_0⟩ := Kd.at_int zr.out (rd zd a1_0) p421 q421
    have hw421_0 := hx421_0
    cases e421
    replace hx421_0 := (HB.out.cell (World.block_lt_of_cell? w _ hx421_0)).trans hx421_0
    replace p421 := eq_true p421
    replace q421 := eq_true q421
    have p21 : 0 ≤ (a1_0 : Int) := of_decide_eq_true pD
    have q21 : (a1_0 : Int) < ((zd.length : Int) : Int) := of_decide_eq_true pD
    obtain ⟨go21, co21, z5, z6, gl21, cl21, HG21⟩ := Kd.R_form zc.out (by omega)
    (first | cases z5 | (injection z5 with ea_ en_ ec_; (first | subst ea_ | (injection ea_ with ea_; subst ea_)); subst ec_; clear en_))
    have GB21 := aM z6
    have GG21 := aM HG21
    clear z6 gl21 HG21
    (first | simp only [add_plain] at hx420_0 | skip)
    obtain ⟨hx21_0, hf21_0⟩ := Kd.R_celln 0 zc.out (a1_0 : Int) p21 q21
    replace p21 := eq_true p21
    replace q21 := eq_true q21
    have HP26 := Kd.R_putn zc.out (a1_0 : Int) (rd l1_9 (rd zd a1_0))
    rw [← Ny422.out] at HP26
    have HQ26 := aM HP26
    clear HP26
    refine start_ (n := 14) (S := fun w' => w'.cell? ⟨zb, 0, none⟩ = some (.int .i64 a1_0) ∧ w'.cell? ⟨zb, 1, none⟩ = some (.int .i64 a1_1) ∧ w'.cell? ⟨zb, 2, none⟩ = some (.int .i64 a1_2) ∧ w'.cell? ⟨zb, 3, none⟩ = some (.int .i64 a1_3) ∧ w'.cell? ⟨zb, 4, none⟩ = some (.int .i64 a1_4) ∧ w'.cell? ⟨zb, 5, none⟩ = some (.int .i64 a1_5) ∧ w'.cell? ⟨zb, 6, none⟩ = some (.int .i64 a1_6) ∧ w'.cell? ⟨zb, 7, none⟩ = some (.int .i64 a1_7) ∧ w'.cell? ⟨zb, 8, none⟩ = some (.bool a1_8) ∧ w'.cell? ⟨zb, 9, none⟩ = some (.slice (some ad421) l1_9.length c1_9) ∧ w'.cell? ⟨go21, (a1_0).toNat, none⟩ = some (.int .i64 (rd zd a1_0)) ∧ w'.cell? (ad421.add ((rd zd a1_0)).toNat) = some (.int .i64 (rd l1_9 (rd zd a1_0)))) (ds := [13]) (bm 14 0) (by kernel_rfl) rfl rfl ⟨(blk_cell za.out 0).trans rfl, (blk_cell za.out 1).trans rfl, (blk_cell za.out 2).trans rfl, (blk_cell za.out 3).trans rfl, (blk_cell za.out 4).trans rfl, (blk_cell za.out 5).trans rfl, (blk_cell za.out 6).trans rfl, (blk_cell za.out 7).trans rfl, (blk_cell za.out 8).trans rfl, (blk_cell za.out 9).trans rfl, hx420_0, ((HB.out.cell (World.block_lt_of_cell? w _ hw421_0)).trans hw421_0)⟩ (fun hHeld => ?_); refine with_tabW move_From.tab9 move_From.bits9 (fun HT_ HW_ => ?_)
    generalize wc.drew = w24 at zf zc za HB GG21 HQ26 hf21_0 hx21_0 hx420_0 hx421_0 hHeld ⊢
    refine pP (i := 0) (N := some 54) (bm 14 1) rfl rfl HT_.out ?_
    refine pP (i := 1) (N := some 55) (bm 14 3) rfl rfl HT_.out ?_
    refine pP (i := 3) (N := some 57) (bm 14 11) rfl rfl HT_.out ?_
    refine pP (i := 5) (N := some 59) (bm 14 43) rfl rfl HT_.out ?_
    refine pP (i := 6) (N := some 60) (bm 14 107) rfl rfl HT_.out ?_
    refine pT (i := 2) (N := some 56) (bm 14 111) rfl rfl HT_.out HW_.out hHeld (by rintro w' ⟨s0, s1, s2, s3, s4, s5, s6, s7, s8, s9, s10, s11⟩; go_simp; with_reducible rfl) ?_
    refine pT (i := 4) (N := some 58) (bm 14 127) rfl rfl HT_.out HW_.out hHeld (by rintro w' ⟨s0, s1, s2, s3, s4, s5, s6, s7, s8, s9, s10, s11⟩; go_simp; with_reducible rfl) ?_
    refine pT (i := 7) (N := some 61) (bm 14 255) rfl rfl HT_.out HW_.out hHeld (by rintro w' ⟨s0, s1, s2, s3, s4, s5, s6, s7, s8, s9, s10, s11⟩; go_simp; with_reducible rfl) ?_
    refine pP (i := 8) (N := some 62) (bm 14 511) rfl rfl HT_.out ?_
    refine pT (i := 9) (N := some 63) (bm 14 1023) rfl rfl HT_.out HW_.out hHeld (by rintro w' ⟨s0, s1, s2, s3, s4, s5, s6, s7, s8, s9, s10, s11⟩; go_simp; with_reducible rfl) ?_
    refine pP (i := 10) (N := some 64) (bm 14 2047) rfl rfl HT_.out ?_
    refine pT (i := 11) (N := some 65) (bm 14 4095) rfl rfl HT_.out HW_.out hHeld (by rintro w' ⟨s0, s1, s2, s3, s4, s5, s6, s7, s8, s9, s10, s11⟩; go_simp; with_reducible rfl) ?_
    refine pP (i := 12) (N := some 66) (bm 14 8191) rfl rfl HT_.out ?_
    refine last_ (i := 13) (N := none) (bm 14 16383) rfl rfl (one_of HT_.out (by kernel_rfl)) (by decide) (fun K hK => ?_)
    refine skip_ (w1 := ?_) (by rfl) rfl ?_ ?_
    rotate_left
    ·go_simp
     rfl
    refine hK.out _ _ ?_
    clear hK K
    refine done_ (done_of HT_.out (by kernel_rfl)) ?_
    have p423 : 0 ≤ (0 : Int) := (by omega)
    have q423 : 0 < (l2.length : Int) := of_decide_eq_true pD
    obtain ⟨ad423, A423_0, c423_0, e423, hx423_0, hl423_0, hi423_0⟩ := at_L1 HR2.out 0 p423 q423
    cases e423
    have qi423 : (0 < l2.length) = True := eq_true (by omega)
    (try rw [show ((0 : Int)).toNat = 0 from rfl] at hx423_0)
    (try rw [Addr.add_zero'] at hx423_0)
    have hn423_0 : ad423.block ≠ go21 := Nat.ne_of_lt (Nat.lt_of_lt_of_le (by have := World.block_lt_of_cell? _ _ hx423_0; first | rwa [add_block] at this | exact this) GB21.out)
    replace hx423_0 := (HB.out.cell (World.block_lt_of_cell? w _ hx423_0)).trans hx423_0
    have HR423_0 := aM hi423_0
    have HC423_0 := aM hl423_0
    clear hi423_0 hl423_0
    replace hx423_0 := (cell_far (p := ⟨go21, (a1_0 : Int).toNat, none⟩) (by first | (rw [add_block]; exact hn423_0) | (show (Addr.add _ _).block ≠ _; rw [add_block]; exact hn423_0) | exact hn423_0) (.int .i64 (rd l1_9 (rd zd a1_0)))).trans hx423_0
    clear hn423_0
    replace p423 := eq_true p423
    replace q423 := eq_true q423
    try go_wp2_with (first | ((with_reducible refine gate_callee (f := 41) rfl ?_); refine goesL_ (some 97) rfl rfl Try.func41 (by kernel_rfl) rfl #[.slice A423_0 (rd_L1 l2 0).length c423_0, .slice (some ⟨go21, 0, none⟩) zt.length z3] rfl (by (try simp only [List.map_toArray, List.map_cons, List.map_nil]); first | done | (rw [show zt.length = zd.length from (Kd.R_reads' HQ26.out).1.symm] <;> rfl) | rfl | (simp only [List.length_drop, List.length_take]; rfl)) ?_; (with_reducible refine (walk_Place.calls kj6 _ _ (rd_L1 l2 0) _ _ zt t424 t425 _ ?s1 ?s2 ?s3 ?s4 A23.out).mono ?_); (case s1 => exact Kd.C_below HR423_0.out (qB2 HB GB21 zg)); (case s2 => exact HC423_0.out); (case s3 => refine (Kd.R_reads' (e := 3) (base := w.heap.size) (ok := fun k_ => some k_ ≠ (.slice zo zj.length zp : Value).ownBlock) (n := zd.length) (c := z3) ?_).2.2; exact (pR HQ26.out)); (case s4 => rw [show zt.length = zd.length from (Kd.R_reads' HQ26.out).1.symm]; exact sL zc); rintro e w' ⟨rfl, ⟨nd, rfl⟩⟩; refine ⟨_, rfl, ?_⟩))
    go_ret3
    exact ⟨pE, qB2 HB GB21 zg⟩
   rw [if_neg c16] at H
   have c16b0 : (a0 == 38) = false := beq_eq_false_iff_ne.mpr c16
   have c16b1 : (a0 != 38) = true := bne_iff_ne.mpr c16
   by_cases c27 : a0 = 40
   rotate_left
   ·rw [if_neg c27] at H
    have c27b0 : (a0 == 40) = false := beq_eq_false_iff_ne.mpr c27
    have c27b1 : (a0 != 40) = true := bne_iff_ne.mpr c27
    by_cases c45 : 0 < (l2.length : Int)
    rotate_left
    ·rw [if_neg c45] at H
     exact absurd H (by simp)
    rw [if_pos c45] at H
    have c45b0 : decide (0 < (l2.length : Int)) = true := decide_eq_true c45
    have c45b1 : decide (0 < l2.length) = true := decide_eq_true (by omega)
    clear c45
    replace H := Option.bind_eq_some_iff.mp H
    obtain ⟨⟨t438, t439⟩, z7, H⟩ := H
    try dsimp only at H
    have A46 := aM z7
    clear z7
    simp only [Option.some.injEq, Prod.mk.injEq] at H
    obtain ⟨rfl, rfl, rfl⟩ := H
    try go_wp2
    replace zf := aM (Kd.R_drew zf.out)
    replace zc := aM (Kd.R_drew zc.out)
    replace za := aM (blk_drew za.out)
    replace HB := aM (below_drew1 HB.out)
    have p437 : 0 ≤ (0 : Int) := (by omega)
    have q437 : 0 < (l2.length : Int) := of_decide_eq_true pD
    obtain ⟨ad437, A437_0, c437_0, e437, hx437_0, hl437_0, hi437_0⟩ := at_L1 HR2.out 0 p437 q437
    have hw437_0 := hx437_0
    (try rw [show ((0 : Int)).toNat = 0 from rfl] at hw437_0)
    (try rw [show 0 * 1 = 0 from rfl] at hw437_0)
    (try rw [Addr.add_zero'] at hw437_0)
    cases e437
    have qi437 : (0 < l2.length) = True := eq_true (by omega)
    (try rw [show ((0 : Int)).toNat = 0 from rfl] at hx437_0)
    (try rw [Addr.add_zero'] at hx437_0)
    replace hx437_0 := (HB.out.cell (World.block_lt_of_cell? w _ hx437_0)).trans hx437_0
    have zm := aM hi437_0
    have HC437_0 := aM hl437_0
    clear hi437_0 hl437_0
    replace p437 := eq_true p437
    replace q437 := eq_true q437
    obtain ⟨zw, zx, z8⟩ := Kd.R_slice zc.out
    (first | subst z8 | (injection z8 with f1_ f2_ f3_; have f4_ := f1_.symm; have f5_ := f3_.symm; clear f1_ f2_ f3_; subst f4_; subst f5_))
    refine start_ (n := 12) (S := fun w' => w'.cell? ⟨zb, 0, none⟩ = some (.int .i64 a1_0) ∧ w'.cell? ⟨zb, 1, none⟩ = some (.int .i64 a1_1) ∧ w'.cell? ⟨zb, 2, none⟩ = some (.int .i64 a1_2) ∧ w'.cell? ⟨zb, 3, none⟩ = some (.int .i64 a1_3) ∧ w'.cell? ⟨zb, 4, none⟩ = some (.int .i64 a1_4) ∧ w'.cell? ⟨zb, 5, none⟩ = some (.int .i64 a1_5) ∧ w'.cell? ⟨zb, 6, none⟩ = some (.int .i64 a1_6) ∧ w'.cell? ⟨zb, 7, none⟩ = some (.int .i64 a1_7) ∧ w'.cell? ⟨zb, 8, none⟩ = some (.bool a1_8) ∧ w'.cell? ⟨zb, 9, none⟩ = some (.slice A1_9 l1_9.length c1_9) ∧ w'.cell? ad437 = some (.slice A437_0 (rd_L1 l2 0).length c437_0)) (ds := []) (bm 12 0) (by kernel_rfl) rfl rfl ⟨(blk_cell za.out 0).trans rfl, (blk_cell za.out 1).trans rfl, (blk_cell za.out 2).trans rfl, (blk_cell za.out 3).trans rfl, (blk_cell za.out 4).trans rfl, (blk_cell za.out 5).trans rfl, (blk_cell za.out 6).trans rfl, (blk_cell za.out 7).trans rfl, (blk_cell za.out 8).trans rfl, (blk_cell za.out 9).trans rfl, ((HB.out.cell (World.block_lt_of_cell? w _ hw437_0)).trans hw437_0)⟩ (fun hHeld => ?_); refine with_tabW move_From.tab7 move_From.bits7 (fun HT_ HW_ => ?_)
    generalize wc.drew = w47 at zf zc za HB zm hx437_0 hHeld ⊢
    refine pP (i := 0) (N := some 43) (bm 12 1) rfl rfl HT_.out ?_
    refine pP (i := 2) (N := some 45) (bm 12 5) rfl rfl HT_.out ?_
    refine pP (i := 3) (N := some 46) (bm 12 13) rfl rfl HT_.out ?_
    refine pP (i := 5) (N := some 48) (bm 12 45) rfl rfl HT_.out ?_
    refine pP (i := 6) (N := some 49) (bm 12 109) rfl rfl HT_.out ?_
    refine pP (i := 7) (N := some 50) (bm 12 237) rfl rfl HT_.out ?_
    refine pT (i := 1) (N := some 44) (bm 12 239) rfl rfl HT_.out HW_.out hHeld (by rintro w' ⟨s0, s1, s2, s3, s4, s5, s6, s7, s8, s9, s10⟩; go_simp; with_reducible rfl) ?_
    refine pT (i := 4) (N := some 47) (bm 12 255) rfl rfl HT_.out HW_.out hHeld (by rintro w' ⟨s0, s1, s2, s3, s4, s5, s6, s7, s8, s9, s10⟩; go_simp; with_reducible rfl) ?_
    refine one_ (i := 8) (N := some 51) (bm 12 511) rfl rfl (one_of HT_.out (by kernel_rfl)) (by decide) (fun K hK => ?_)
    refine goes_ Try.func40 (by kernel_rfl) rfl #[.int .i64 a0, .agg #[.int .i64 a1_0, .int .i64 a1_1, .int .i64 a1_2, .int .i64 a1_3, .int .i64 a1_4, .int .i64 a1_5, .int .i64 a1_6, .int .i64 a1_7, .bool a1_8, .slice A1_9 l1_9.length c1_9], .slice A437_0 (rd_L1 l2 0).length c437_0, .slice zo zj.length zp, .slice zw zd.length zx, .int .i64 a3] (by rfl) rfl rfl pA ?_
    with_reducible refine (move_seen.calls kj6 a0 a1_0 a1_1 a1_2 a1_3 a1_4 a1_5 a1_6 a1_7 a1_8 _ _ l1_9 _ _ (rd_L1 l2 0) _ _ zj (fun k_ => some k_ = (.slice zw zd.length zx : Value).ownBlock) (.slice zw zd.length zx) zd a3 t438 t439 w _ ?s1 ?s2 ?s3 ?s4 ?s5 ?s6 ?s7 ?s8 A46.out).mono ?_
    (case s1 => repeat (first | (with_reducible first | exact HB.out | apply below_alloc | apply pw_below_drewN | apply below_drew1 | refine below_set ?_ zg.out) | exact HB.out))
    (case s2 => exact Kd.C_kept_came (Kd.heap_int .i64) zr.out (qB1 HB zg) (fun k_ hs_ => (fun e_ => Kd.R_base zc.out k_ e_.symm) hs_))
    (case s3 => exact zz.out)
    (case s4 => exact Kd.C_kept_came (Kd.heap_int .i64) zm.out (qB1 HB zg) (fun k_ hs_ => (fun e_ => Kd.R_base zc.out k_ e_.symm) hs_))
    (case s5 => exact HC437_0.out)
    (case s6 => exact Kd.C_kept_own (zf.out) (fun k_ hk_ hs_ => (hk_) hs_))
    (case s7 => exact sL zf)
    (case s8 => exact Kd.R_tight rfl zc.out)
    rintro e w49 ⟨rfl, hy0, hb, hkp⟩
    refine ⟨_, rfl, ?_⟩
    replace zf := aM (Kd.R_mono (ok' := fun k_ => some k_ ≠ (.slice zw zd.length zx : Value).ownBlock) (Kd.R_keptB (zf.out) hkp (fun k_ hk_ hs_ => (hk_) hs_)) (fun k_ hk_ => hk_.1))
    replace za := aM (blk_kept (pK za.out) hkp (fun hs_ => (fun e_ => (Kd.R_ne zc.out za.out (by decide)) e_) hs_))
    replace zc := aM (Kd.R_reok rfl hy0 (fun k_ e_ => zc.out.1 k_ e_))
    replace HB := aM (hb)
    (try clear hb)
    (try clear hkp)
    (try clear hy0)
    refine hK.out _ _ ⟨(blk_cell za.out 0).trans rfl, (blk_cell za.out 1).trans rfl, (blk_cell za.out 2).trans rfl, (blk_cell za.out 3).trans rfl, (blk_cell za.out 4).trans rfl, (blk_cell za.out 5).trans rfl, (blk_cell za.out 6).trans rfl, (blk_cell za.out 7).trans rfl, (blk_cell za.out 8).trans rfl, (blk_cell za.out 9).trans rfl, ((HB.out.cell (World.block_lt_of_cell? w _ hw437_0)).trans hw437_0)⟩ (fun hHeld => ?_)
    clear hK K
    refine norm_ (a' := ?_) ?_ ?_
    rotate_left
    ·show Act.put _ (some 51) _ = _
     simp only [Act.put, sP, i64_w, i32_w]
     rfl
    refine pP (i := 9) (N := some 8) (bm 12 1023) rfl rfl HT_.out ?_
    refine pP (i := 10) (N := some 9) (bm 12 2047) rfl rfl HT_.out ?_
    refine pP (i := 11) (N := some 10) (bm 12 4095) rfl rfl HT_.out ?_
    refine done_ (done_of HT_.out (by kernel_rfl)) ?_
    try go_wp2
    go_ret3
    exact ⟨pE, qB1 HB zg⟩
   rw [if_pos c27] at H
   have c27b0 : (a0 == 40) = true := beq_iff_eq.mpr c27
   have c27b1 : (a0 != 40) = false := bne_eq_false_iff_eq.mpr c27
   clear c27
   by_cases c28 : 0 < (l2.length : Int)
   rotate_left
   ·rw [if_neg c28] at H
    exact absurd H (by simp)
   rw [if_pos c28] at H
   have c28b0 : decide (0 < (l2.length : Int)) = true := decide_eq_true c28
   have c28b1 : decide (0 < l2.length) = true := decide_eq_true (by omega)
   clear c28
   by_cases c29 : 0 ≤ a1_0
   rotate_left
   ·rw [if_neg c29] at H
    exact absurd H (by simp)
   rw [if_pos c29] at H
   have c29b0 : decide (0 ≤ a1_0) = true := decide_eq_true c29
   clear c29
   by_cases c30 : a1_0 < ((rd_L1 l2 0).length : Int)
   rotate_left
   ·rw [if_neg c30] at H
    exact absurd H (by simp)
   rw [if_pos c30] at H
   have c30b0 : decide (a1_0 < ((rd_L1 l2 0).length : Int)) = true := decide_eq_true c30
   clear c30
   by_cases c31 : a1_0 < (zd.length : Int)
   rotate_left
   ·rw [if_neg c31] at H
    exact absurd H (by simp)
   rw [if_pos c31] at H
   have c31b0 : decide (a1_0 < (zd.length : Int)) = true := decide_eq_true c31
   clear c31
   by_cases c32 : (rd zd a1_0) ≥ (rd (rd_L1 l2 0) a1_0)
   rotate_left
   ·rw [if_neg c32] at H
    have c32b0 : decide ((rd (rd_L1 l2 0) a1_0) ≤ (rd zd a1_0)) = false := decide_eq_false c32
    clear c32
    replace H := Option.bind_eq_some_iff.mp H
    obtain ⟨⟨t435, t436⟩, z9, H⟩ := H
    try dsimp only at H
    have A41 := aM z9
    clear z9
    simp only [Option.some.injEq, Prod.mk.injEq] at H
    obtain ⟨rfl, rfl, rfl⟩ := H
    try go_wp2
    replace zf := aM (Kd.R_drew zf.out)
    replace zc := aM (Kd.R_drew zc.out)
    replace za := aM (blk_drew za.out)
    replace HB := aM (below_drew1 HB.out)
    have p426 : 0 ≤ (0 : Int) := (by omega)
    have q426 : 0 < (l2.length : Int) := of_decide_eq_true pD
    obtain ⟨ad426, A426_0, c426_0, e426, hx426_0, hl426_0, hi426_0⟩ := at_L1 HR2.out 0 p426 q426
    have hw426_0 := hx426_0
    (try rw [show ((0 : Int)).toNat = 0 from rfl] at hw426_0)
    (try rw [show 0 * 1 = 0 from rfl] at hw426_0)
    (try rw [Addr.add_zero'] at hw426_0)
    cases e426
    have qi426 : (0 < l2.length) = True := eq_true (by omega)
    (try rw [show ((0 : Int)).toNat = 0 from rfl] at hx426_0)
    (try rw [Addr.add_zero'] at hx426_0)
    replace hx426_0 := (HB.out.cell (World.block_lt_of_cell? w _ hx426_0)).trans hx426_0
    have zi := aM hi426_0
    have HC426_0 := aM hl426_0
    clear hi426_0 hl426_0
    replace p426 := eq_true p426
    replace q426 := eq_true q426
    have p427 : 0 ≤ (a1_0 : Int) := of_decide_eq_true pD
    have q427 : a1_0 < ((rd_L1 l2 0).length : Int) := of_decide_eq_true pD
    obtain ⟨ad427, e427, hx427_0⟩ := Kd.at_int zi.out a1_0 p427 q427
    have hw427_0 := hx427_0
    cases e427
    replace hx427_0 := (HB.out.cell (World.block_lt_of_cell? w _ hx427_0)).trans hx427_0
    replace p427 := eq_true p427
    replace q427 := eq_true q427
    refine start_ (n := 8) (S := fun w' => w'.cell? ⟨zb, 0, none⟩ = some (.int .i64 a1_0) ∧ w'.cell? ⟨zb, 1, none⟩ = some (.int .i64 a1_1) ∧ w'.cell? ⟨zb, 2, none⟩ = some (.int .i64 a1_2) ∧ w'.cell? ⟨zb, 3, none⟩ = some (.int .i64 a1_3) ∧ w'.cell? ⟨zb, 4, none⟩ = some (.int .i64 a1_4) ∧ w'.cell? ⟨zb, 5, none⟩ = some (.int .i64 a1_5) ∧ w'.cell? ⟨zb, 6, none⟩ = some (.int .i64 a1_6) ∧ w'.cell? ⟨zb, 7, none⟩ = some (.int .i64 a1_7) ∧ w'.cell? ⟨zb, 8, none⟩ = some (.bool a1_8) ∧ w'.cell? ⟨zb, 9, none⟩ = some (.slice A1_9 l1_9.length c1_9) ∧ w'.cell? ad426 = some (.slice (some ad427) (rd_L1 l2 0).length c426_0) ∧ w'.cell? (ad427.add (a1_0).toNat) = some (.int .i64 (rd (rd_L1 l2 0) a1_0))) (ds := []) (bm 8 0) (by kernel_rfl) rfl rfl ⟨(blk_cell za.out 0).trans rfl, (blk_cell za.out 1).trans rfl, (blk_cell za.out 2).trans rfl, (blk_cell za.out 3).trans rfl, (blk_cell za.out 4).trans rfl, (blk_cell za.out 5).trans rfl, (blk_cell za.out 6).trans rfl, (blk_cell za.out 7).trans rfl, (blk_cell za.out 8).trans rfl, (blk_cell za.out 9).trans rfl, ((HB.out.cell (World.block_lt_of_cell? w _ hw426_0)).trans hw426_0), ((HB.out.cell (World.block_lt_of_cell? w _ hw427_0)).trans hw427_0)⟩ (fun hHeld => ?_); refine with_tabW move_From.tab11 move_From.bits11 (fun HT_ HW_ => ?_)
    generalize wc.drew = w42 at zf zc za HB zi hx426_0 hx427_0 hHeld ⊢
    refine pP (i := 0) (N := some 69) (bm 8 1) rfl rfl HT_.out ?_
    refine pP (i := 1) (N := some 70) (bm 8 3) rfl rfl HT_.out ?_
    refine pP (i := 3) (N := some 72) (bm 8 11) rfl rfl HT_.out ?_
    refine pT (i := 2) (N := some 71) (bm 8 15) rfl rfl HT_.out HW_.out hHeld (by rintro w' ⟨s0, s1, s2, s3, s4, s5, s6, s7, s8, s9, s10, s11⟩; go_simp; with_reducible rfl) ?_
    refine pT (i := 4) (N := some 73) (bm 8 31) rfl rfl HT_.out HW_.out hHeld (by rintro w' ⟨s0, s1, s2, s3, s4, s5, s6, s7, s8, s9, s10, s11⟩; go_simp; with_reducible rfl) ?_
    refine pP (i := 5) (N := some 74) (bm 8 63) rfl rfl HT_.out ?_
    refine pT (i := 6) (N := some 75) (bm 8 127) rfl rfl HT_.out HW_.out hHeld (by rintro w' ⟨s0, s1, s2, s3, s4, s5, s6, s7, s8, s9, s10, s11⟩; go_simp; with_reducible rfl) ?_
    refine pP (i := 7) (N := some 16) (bm 8 255) rfl rfl HT_.out ?_
    refine done_ (done_of HT_.out (by kernel_rfl)) ?_
    obtain ⟨hcz43_0, hcz43_1, hcz43_2, hcz43_3, hcz43_4, hcz43_5, hcz43_6, hcz43_7, hcz43_8, hcz43_9, hfz43_0, hfz43_1, hfz43_2, hfz43_3, hfz43_4, hfz43_5, hfz43_6, hfz43_7, hfz43_8, hfz43_9⟩ := blk10 za.out
    obtain ⟨Ao44, co44, eo44⟩ := Kd.R_slice zc.out
    subst eo44
    have p428 : 0 ≤ (a1_0 : Int) := of_decide_eq_true pD
    have q428 : a1_0 < (zd.length : Int) := of_decide_eq_true pD
    obtain ⟨ad428, e428, hx428_0⟩ := Kd.at_int (Kd.R_reads' zc.out).2.2 a1_0 p428 q428
    cases e428
    replace p428 := eq_true p428
    replace q428 := eq_true q428
    have p434 : 0 ≤ (0 : Int) := (by omega)
    have q434 : 0 < (l2.length : Int) := of_decide_eq_true pD
    obtain ⟨ad434, A434_0, c434_0, e434, hx434_0, hl434_0, hi434_0⟩ := at_L1 HR2.out 0 p434 q434
    obtain rfl : ad426 = ad434 := (by injection e434)
    have qi434 : (0 < l2.length) = True := eq_true (by omega)
    (try rw [show ((0 : Int)).toNat = 0 from rfl] at hx434_0)
    (try rw [Addr.add_zero'] at hx434_0)
    replace hx434_0 := (HB.out.cell (World.block_lt_of_cell? w _ hx434_0)).trans hx434_0
    have HR434_0 := aM hi434_0
    have HC434_0 := aM hl434_0
    clear hi434_0 hl434_0
    replace p434 := eq_true p434
    replace q434 := eq_true q434
    have ea_ := Option.some.inj (hx426_0.symm.trans hx434_0)
    injection ea_ with ea_ en_ ec_
    subst ea_
    subst ec_
    clear en_
    try go_wp2_with (first | ((with_reducible refine gate_callee (f := 41) rfl ?_); refine goesL_ (some 97) rfl rfl Try.func41 (by kernel_rfl) rfl #[.slice (some ad427) (rd_L1 l2 0).length c426_0, .slice (some ad428) zd.length co44] rfl pA ?_; (with_reducible refine (walk_Place.calls kj6 _ _ (rd_L1 l2 0) _ _ zd t435 t436 _ ?s1 ?s2 ?s3 ?s4 A41.out).mono ?_); (case s1 => exact sC HR434_0 HB); (case s2 => exact HC434_0.out); (case s3 => exact sR zc); (case s4 => exact sL zc); rintro e w' ⟨rfl, ⟨nd, rfl⟩⟩; refine ⟨_, rfl, ?_⟩))
    go_ret3
    exact ⟨pE, qB1 HB zg⟩
   rw [if_pos c32] at H
   have c32b0 : decide ((rd (rd_L1 l2 0) a1_0) ≤ (rd zd a1_0)) = true := decide_eq_true c32
   clear c32
   obtain ⟨zq, zv⟩ : ∃ y_ : List Int, y_ = (zd.set (a1_0 : Int).toNat (wrap64 ((rd zd a1_0) - (rd (rd_L1 l2 0) a1_0)))) := ⟨_, rfl⟩
   replace H : (if 1 < (l2.length : Int) then ((walk_Place.f kj6 (rd_L1 l2 1) zq).bind fun bt432 => (some (1, bt432.1, true))) else (none)) = some (r1, r2, r3) := pH zv H
   have Ny430 := aM zv
   clear zv
   by_cases c34 : 1 < (l2.length : Int)
   rotate_left
   ·rw [if_neg c34] at H
    exact absurd H (by simp)
   rw [if_pos c34] at H
   have c34b0 : decide (1 < (l2.length : Int)) = true := decide_eq_true c34
   have c34b1 : decide (1 < l2.length) = true := decide_eq_true (by omega)
   clear c34
   replace H := Option.bind_eq_some_iff.mp H
   obtain ⟨⟨t432, t433⟩, zaa, H⟩ := H
   try dsimp only at H
   have A35 := aM zaa
   clear zaa
   simp only [Option.some.injEq, Prod.mk.injEq] at H
   obtain ⟨rfl, rfl, rfl⟩ := H
   try go_wp2
   replace zf := aM (Kd.R_drew zf.out)
   replace zc := aM (Kd.R_drew zc.out)
   replace za := aM (blk_drew za.out)
   replace HB := aM (below_drew1 HB.out)
   have p426 : 0 ≤ (0 : Int) := (by omega)
   have q426 : 0 < (l2.length : Int) := of_decide_eq_true pD
   obtain ⟨ad426, A426_0, c426_0, e426, hx426_0, hl426_0, hi426_0⟩ := at_L1 HR2.out 0 p426 q426
   have hw426_0 := hx426_0
   (try rw [show ((0 : Int)).toNat = 0 from rfl] at hw426_0)
   (try rw [show 0 * 1 = 0 from rfl] at hw426_0)
   (try rw [Addr.add_zero'] at hw426_0)
   cases e426
   have qi426 : (0 < l2.length) = True := eq_true (by omega)
   (try rw [show ((0 : Int)).toNat = 0 from rfl] at hx426_0)
   (try rw [Addr.add_zero'] at hx426_0)
   replace hx426_0 := (HB.out.cell (World.block_lt_of_cell? w _ hx426_0)).trans hx426_0
   have zi := aM hi426_0
   have HC426_0 := aM hl426_0
   clear hi426_0 hl426_0
   replace p426 := eq_true p426
   replace q426 := eq_true q426
   have p427 : 0 ≤ (a1_0 : Int) := of_decide_eq_true pD
   have q427 : a1_0 < ((rd_L1 l2 0).length : Int) := of_decide_eq_true pD
   obtain ⟨ad427, e427, hx427_0⟩ := Kd.at_int zi.out a1_0 p427 q427
   have hw427_0 := hx427_0
   cases e427
   replace hx427_0 := (HB.out.cell (World.block_lt_of_cell? w _ hx427_0)).trans hx427_0
   replace p427 := eq_true p427
   replace q427 := eq_true q427
   refine start_ (n := 8) (S := fun w' => w'.cell? ⟨zb, 0, none⟩ = some (.int .i64 a1_0) ∧ w'.cell? ⟨zb, 1, none⟩ = some (.int .i64 a1_1) ∧ w'.cell? ⟨zb, 2, none⟩ = some (.int .i64 a1_2) ∧ w'.cell? ⟨zb, 3, none⟩ = some (.int .i64 a1_3) ∧ w'.cell? ⟨zb, 4, none⟩ = some (.int .i64 a1_4) ∧ w'.cell? ⟨zb, 5, none⟩ = some (.int .i64 a1_5) ∧ w'.cell? ⟨zb, 6, none⟩ = some (.int .i64 a1_6) ∧ w'.cell? ⟨zb, 7, none⟩ = some (.int .i64 a1_7) ∧ w'.cell? ⟨zb, 8, none⟩ = some (.bool a1_8) ∧ w'.cell? ⟨zb, 9, none⟩ = some (.slice A1_9 l1_9.length c1_9) ∧ w'.cell? ad426 = some (.slice (some ad427) (rd_L1 l2 0).length c426_0) ∧ w'.cell? (ad427.add (a1_0).toNat) = some (.int .i64 (rd (rd_L1 l2 0) a1_0))) (ds := []) (bm 8 0) (by kernel_rfl) rfl rfl ⟨(blk_cell za.out 0).trans rfl, (blk_cell za.out 1).trans rfl, (blk_cell za.out 2).trans rfl, (blk_cell za.out 3).trans rfl, (blk_cell za.out 4).trans rfl, (blk_cell za.out 5).trans rfl, (blk_cell za.out 6).trans rfl, (blk_cell za.out 7).trans rfl, (blk_cell za.out 8).trans rfl, (blk_cell za.out 9).trans rfl, ((HB.out.cell (World.block_lt_of_cell? w _ hw426_0)).trans hw426_0), ((HB.out.cell (World.block_lt_of_cell? w _ hw427_0)).trans hw427_0)⟩ (fun hHeld => ?_); refine with_tabW move_From.tab11 move_From.bits11 (fun HT_ HW_ => ?_)
   generalize wc.drew = w36 at zf zc za HB zi hx426_0 hx427_0 hHeld ⊢
   refine pP (i := 0) (N := some 69) (bm 8 1) rfl rfl HT_.out ?_
   refine pP (i := 1) (N := some 70) (bm 8 3) rfl rfl HT_.out ?_
   refine pP (i := 3) (N := some 72) (bm 8 11) rfl rfl HT_.out ?_
   refine pT (i := 2) (N := some 71) (bm 8 15) rfl rfl HT_.out HW_.out hHeld (by rintro w' ⟨s0, s1, s2, s3, s4, s5, s6, s7, s8, s9, s10, s11⟩; go_simp; with_reducible rfl) ?_
   refine pT (i := 4) (N := some 73) (bm 8 31) rfl rfl HT_.out HW_.out hHeld (by rintro w' ⟨s0, s1, s2, s3, s4, s5, s6, s7, s8, s9, s10, s11⟩; go_simp; with_reducible rfl) ?_
   refine pP (i := 5) (N := some 74) (bm 8 63) rfl rfl HT_.out ?_
   refine pT (i := 6) (N := some 75) (bm 8 127) rfl rfl HT_.out HW_.out hHeld (by rintro w' ⟨s0, s1, s2, s3, s4, s5, s6, s7, s8, s9, s10, s11⟩; go_simp; with_reducible rfl) ?_
   refine pP (i := 7) (N := some 16) (bm 8 255) rfl rfl HT_.out ?_
   refine done_ (done_of HT_.out (by kernel_rfl)) ?_
   obtain ⟨hcz37_0, hcz37_1, hcz37_2, hcz37_3, hcz37_4, hcz37_5, hcz37_6, hcz37_7, hcz37_8, hcz37_9, hfz37_0, hfz37_1, hfz37_2, hfz37_3, hfz37_4, hfz37_5, hfz37_6, hfz37_7, hfz37_8, hfz37_9⟩ := blk10 za.out
   obtain ⟨Ao38, zy, eo38⟩ := Kd.R_slice zc.out
   subst eo38
   have p428 : 0 ≤ (a1_0 : Int) := of_decide_eq_true pD
   have q428 : a1_0 < (zd.length : Int) := of_decide_eq_true pD
   obtain ⟨ad428, e428, hx428_0⟩ := Kd.at_int (Kd.R_reads' zc.out).2.2 a1_0 p428 q428
   cases e428
   replace p428 := eq_true p428
   replace q428 := eq_true q428
   have p429 : 0 ≤ (a1_0 : Int) := of_decide_eq_true pD
   have q429 : a1_0 < (zd.length : Int) := of_decide_eq_true pD
   obtain ⟨ad429, e429, hx429_0⟩ := Kd.at_int (Kd.R_reads' zc.out).2.2 a1_0 p429 q429
   obtain rfl : ad428 = ad429 := (by injection e429)
   replace p429 := eq_true p429
   replace q429 := eq_true q429
   have p33 : 0 ≤ (a1_0 : Int) := of_decide_eq_true pD
   have q33 : (a1_0 : Int) < ((zd.length : Int) : Int) := of_decide_eq_true pD
   obtain ⟨go33, co33, zab, zac, gl33, cl33, HG33⟩ := Kd.R_form zc.out (by omega)
   (first | cases zab | (injection zab with ea_ en_ ec_; (first | subst ea_ | (injection ea_ with ea_; subst ea_)); subst ec_; clear en_))
   have GB33 := aM zac
   have GG33 := aM HG33
   clear zac gl33 HG33
   (first | simp only [add_plain] at hx428_0 | skip)
   (first | simp only [add_plain] at hx429_0 | skip)
   obtain ⟨hx33_0, hf33_0⟩ := Kd.R_celln 0 zc.out (a1_0 : Int) p33 q33
   replace p33 := eq_true p33
   replace q33 := eq_true q33
   obtain ⟨hy39_, hz39_⟩ := Kd.R_celln 0 zc.out (a1_0 : Int) (of_decide_eq_true pD) (of_decide_eq_true pD)
   have HP39 := Kd.R_putg zc.out (a1_0 : Int) (wrap64 ((rd zd a1_0) - (rd (rd_L1 l2 0) a1_0)))
   try go_wp2_with (first | ((with_reducible refine gate_store (t := 3) (p := 90) rfl ?_); refine store_event (t := 3) (p := 90) (v := ?vo_w40) (w1 := (w36.setCell ⟨go33, (a1_0 : Int).toNat, none⟩ (.int .i64 (wrap64 ((rd zd a1_0) - (rd (rd_L1 l2 0) a1_0)))))) ?hg ?ho ?hn ?hr ?_; (case ho => rfl); (case hg => rfl); (case hn => rfl); (case hr => first | (go_simp; done) | (go_simp; rfl)); intro w40 hw; have hg : w36.grownBy w40 (some go33) := (by rw [hw]; exact HP39.2); have hp_ : Kd.R (Kd.int .i64) 3 w40 w.heap.size (fun k_ => some k_ ≠ (.slice zo zj.length zp : Value).ownBlock) (.slice (some ⟨go33, 0, none⟩) zd.length zy) zq := (by rw [hw, Ny430.out]; exact HP39.1); clear HP39; replace zf := aM (Kd.R_after (v := (.slice (some ⟨go33, 0, none⟩) zd.length zy)) (v1 := (.slice (some ⟨go33, 0, none⟩) zd.length zy)) (ok := (fun _ => True)) (by (with_reducible repeat (first | apply rA | apply rN | apply rD)); exact Kd.R_mono zf.out (fun _ hk => ⟨trivial, hk⟩)) hg (.inl rfl)); replace za := aM (blk_grown (g := zb) (pK za.out) hg (Kd.R_ne zc.out za.out (by decide))); replace zc := aM (hp_); replace HB := aM ((by rw [hw]; exact below_set (HB.out) GB33.out : Below w.heap.size w w40)); clear hg hw hp_; have p431 : 0 ≤ (1 : Int) := (by omega); have q431 : 1 < (l2.length : Int) := of_decide_eq_true pD; obtain ⟨ad431, A431_0, c431_0, e431, hx431_0, hl431_0, hi431_0⟩ := at_L1 HR2.out 1 p431 q431; obtain rfl : ad426 = ad431 := (by injection e431); (try simp only [show (1 : Int).toNat = 1 from rfl, Nat.reduceMul, Nat.reduceEqDiff, Go.Addr.add, ↓reduceIte] at hx431_0); have qi431 : (1 < l2.length) = True := eq_true (by omega); (try rw [show ((1 : Int)).toNat = 1 from rfl] at hx431_0); replace hx431_0 := (HB.out.cell (World.block_lt_of_cell? w _ hx431_0)).trans hx431_0; have HR431_0 := aM hi431_0; have HC431_0 := aM hl431_0; clear hi431_0 hl431_0; replace p431 := eq_true p431; replace q431 := eq_true q431) | ((with_reducible refine gate_callee (f := 41) rfl ?_); refine goesL_ (some 97) rfl rfl Try.func41 (by kernel_rfl) rfl #[.slice A431_0 (rd_L1 l2 1).length c431_0, .slice (some ⟨go33, 0, none⟩) zq.length zy] rfl (by (try simp only [List.map_toArray, List.map_cons, List.map_nil]); first | done | (rw [show zq.length = zd.length from (Kd.R_reads' zc.out).1.symm] <;> rfl) | rfl | (simp only [List.length_drop, List.length_take]; rfl)) ?_; (with_reducible refine (walk_Place.calls kj6 _ _ (rd_L1 l2 1) _ _ zq t432 t433 _ ?s1 ?s2 ?s3 ?s4 A35.out).mono ?_); (case s1 => exact sC HR431_0 HB); (case s2 => exact HC431_0.out); (case s3 => exact sR zc); (case s4 => rw [show zq.length = zd.length from (Kd.R_reads' zc.out).1.symm]; exact sL zc); rintro e w' ⟨rfl, ⟨nd, rfl⟩⟩; refine ⟨_, rfl, ?_⟩))
   go_ret3
   exact ⟨pE, qB1 HB zg⟩
def move_Sees.f (a0 : Int) : Option (Bool) := if a0 ≥ 33 then (some (decide (a0 ≤ 37))) else (some false)
set_option maxHeartbeats 8000000 in
set_option maxRecDepth 100000 in
theorem move_Sees.calls (a0 : Int) (r : Bool) (w : World) (h : move_Sees.f a0 = some r) :
  Calls Try.prog 14 #[.int .i64 a0] w fun e w' => e = .returned (.bool r) ∧ Drawn0 w w' := by
 have H : (if a0 ≥ 33 then (some (decide (a0 ≤ 37))) else (some false)) = some r := h
 clear h
 by_cases c2 : a0 ≥ 33
 ·rw [if_pos c2] at H
  have c2b0 : decide (33 ≤ a0) = true := decide_eq_true c2
  clear c2
  obtain rfl := Option.some.inj H
  go_enter Try.func14, Try.ntmps14
  go_wp2
  go_ret
  exact ⟨pF, by repeat (first | exact Drawn0.refl _ | apply Drawn0.step)⟩
 rw [if_neg c2] at H
 have c2b0 : decide (33 ≤ a0) = false := decide_eq_false c2
 clear c2
 obtain rfl := Option.some.inj H
 go_enter Try.func14, Try.ntmps14
 go_wp2
 go_ret
 exact ⟨pF, by repeat (first | exact Drawn0.refl _ | apply Drawn0.step)⟩
def move_To.j0 : Nat → List Int → List Int → Bool → Int → Int → Int → Int → Int → Int → Int → Int → Bool → List Int → Option (Int × Bool)
 | 0, _, _, _, _, _, _, _, _, _, _, _, _, _ => none
 | k + 1, x8, x10, x31, ze, x441001, x441002, x441003, x441004, x441005, x441006, x441007, x441008, zn => if x31 = true then (some (0, false)) else ((slices_Clone_int_int.f x10).bind fun zg => (if 0 ≤ ze then (if ze < (x10.length : Int) then (if 0 ≤ (rd x10 ze) then (if (rd x10 ze) < (zn.length : Int) then (if ze < (zg.length : Int) then ((walk_Place.f k x8 (zg.set (ze : Int).toNat (rd zn (rd x10 ze)))).bind fun bt458 => (some (bt458.1, bt458.2))) else (none)) else (none)) else (none)) else (none)) else (none)))
def move_To.f (k : Nat) (a0_0 : Int) (a0_1 : Int) (a0_2 : Int) (a0_3 : Int) (a0_4 : Int) (a0_5 : Int) (a0_6 : Int) (a0_7 : Int) (a0_8 : Bool) (l0_9 : List Int) (l1 : List Int) (a2 : Int) : Option (Int × Bool) := (move_Dims.f k 39 a0_0 a0_1 a0_2 a0_3 a0_4 a0_5 a0_6 a0_7 a0_8 l0_9 (([l1] : List (List Int)))).bind fun bt444 => ((walk_At.f k l1 a2).bind fun bt448 => (if bt444.2 = 0 then (move_To.j0 k bt444.1 bt448.1 (!bt448.2) a0_0 a0_1 a0_2 a0_3 a0_4 a0_5 a0_6 a0_7 a0_8 l0_9) else (move_To.j0 k bt444.1 bt448.1 true a0_0 a0_1 a0_2 a0_3 a0_4 a0_5 a0_6 a0_7 a0_8 l0_9)))
def move_To.T6 : Bool × List (List Nat × List Nat) := (true, [([], []), ([], []), ([1], [1]), ([], []), ([3], [3]), ([], []), ([], []), ([6], [6]), ([5, 7], [5, 7]), ([8], [8]), ([4, 9], [4, 9]), ([10], [10]), ([0, 2, 0, 1, 2, 3, 4, 5, 6, 7, 8, 9, 10, 11], [0, 2]), ([12, 11, 0, 1, 2, 3, 4, 5, 6, 7, 8, 9, 10, 11], [11, 12])])
def move_To.B6 : List Nat := [0, 0, 2, 0, 8, 0, 0, 64, 224, 480, 1016, 2040, 4095, 8191]
theorem move_To.tab6 : rtab .any (opsOf Try.f16 6) = move_To.T6 := by kernel_rfl
theorem move_To.bits6 : waitsOk move_To.T6.2 move_To.B6 = true := by kernel_rfl
set_option maxHeartbeats 8000000 in
set_option maxRecDepth 100000 in
theorem move_To.calls (k : Nat) (a0_0 : Int) (a0_1 : Int) (a0_2 : Int) (a0_3 : Int) (a0_4 : Int) (a0_5 : Int) (a0_6 : Int) (a0_7 : Int) (a0_8 : Bool) (A0_9 : Option Addr) (c0_9 : Nat) (l0_9 : List Int) (P1_ : Nat → Prop) (A1 : Option Addr) (c1 : Nat) (l1 : List Int) (a2 : Int) (r1 : Int) (r2 : Bool) (w : World) (hr0_9 : Kd.C (Kd.int .i64) w A0_9 l0_9.length l0_9) (hc0_9 : l0_9.length ≤ c0_9) (hs1 : Kd.V (Kd.int .i64) 3 w w.heap.size (fun k_ => P1_ k_) (.slice A1 l1.length c1) l1) (h : move_To.f k a0_0 a0_1 a0_2 a0_3 a0_4 a0_5 a0_6 a0_7 a0_8 l0_9 l1 a2 = some (r1, r2)) :
  Calls Try.prog 16 #[.agg #[.int .i64 a0_0, .int .i64 a0_1, .int .i64 a0_2, .int .i64 a0_3, .int .i64 a0_4, .int .i64 a0_5, .int .i64 a0_6, .int .i64 a0_7, .bool a0_8, .slice A0_9 l0_9.length c0_9], .slice A1 l1.length c1, .int .i64 a2] w fun e w' => e = .returned (.tuple #[.int .i64 r1, .bool r2]) ∧ Below w.heap.size w w' := by
 have hu24 := Try.underlying24
 have zs := aM hr0_9
 have HC0_9 := aM hc0_9
 clear hr0_9 hc0_9
 have HO1 := aM (show Kd.V (Kd.int .i64) 3 w w.heap.size (fun k_ => (P1_ k_ ∨ w.heap.size ≤ k_)) (.slice A1 l1.length c1) l1 from Kd.V_mono hs1 (fun k_ hk => .inl hk))
 have HB := aM (Below.refl w.heap.size w)
 have H : ((move_Dims.f k 39 a0_0 a0_1 a0_2 a0_3 a0_4 a0_5 a0_6 a0_7 a0_8 l0_9 (([l1] : List (List Int)))).bind fun bt444 => ((walk_At.f k l1 a2).bind fun bt448 => (if bt444.2 = 0 then (move_To.j0 k bt444.1 bt448.1 (!bt448.2) a0_0 a0_1 a0_2 a0_3 a0_4 a0_5 a0_6 a0_7 a0_8 l0_9) else (move_To.j0 k bt444.1 bt448.1 true a0_0 a0_1 a0_2 a0_3 a0_4 a0_5 a0_6 a0_7 a0_8 l0_9)))) = some (r1, r2) := h
 clear h
 obtain ⟨zv, zp⟩ : ∃ y_ : List (List Int), y_ = (([l1] : List (List Int))) := ⟨_, rfl⟩
 replace H : ((move_Dims.f k 39 a0_0 a0_1 a0_2 a0_3 a0_4 a0_5 a0_6 a0_7 a0_8 l0_9 zv).bind fun bt444 => ((walk_At.f k l1 a2).bind fun bt448 => (if bt444.2 = 0 then (move_To.j0 k bt444.1 bt448.1 (!bt448.2) a0_0 a0_1 a0_2 a0_3 a0_4 a0_5 a0_6 a0_7 a0_8 l0_9) else (move_To.j0 k bt444.1 bt448.1 true a0_0 a0_1 a0_2 a0_3 a0_4 a0_5 a0_6 a0_7 a0_8 l0_9)))) = some (r1, r2) := pH zp H
 have zt := aM zp
 clear zp
 replace H := Option.bind_eq_some_iff.mp H
 obtain ⟨⟨zk, zo⟩, A40, H⟩ := H
 try dsimp only at H
 have A4 := aM A40
 clear A40
 replace H := Option.bind_eq_some_iff.mp H
 obtain ⟨⟨zd, zz⟩, A50, H⟩ := H
 try dsimp only at H
 have A5 := aM A50
 clear A50
 have HC6 := aM H
 clear H
 go_enter Try.func16, Try.ntmps16
 go_upto_region 3 with (first | ((with_reducible refine gate_dst (N := 3) rfl ?_); refine box_event ?hg (N := 3) ?hd (cs := #[.int .i64 a0_0, .int .i64 a0_1, .int .i64 a0_2, .int .i64 a0_3, .int .i64 a0_4, .int .i64 a0_5, .int .i64 a0_6, .int .i64 a0_7, .bool a0_8, .slice A0_9 l0_9.length c0_9]) (t := 24) ?hr ?_; (case hd => rfl); (case hg => rfl); (case hr => first | (go_simp; done) | (go_simp; rfl)); intro zb hg w7 hbox hb; replace HO1 := aM (Kd.V_below (Kd.V_elderB (pV HO1.out) zb (Nat.le_of_eq hg.symm)) hb); have za := aM (hbox); have GW440 := gE (w := w) hg (qB HB); have zc := GW440; replace HB := bS (qB HB) hb; clear hb hbox hg; obtain ⟨hcz8_0, hcz8_1, hcz8_2, hcz8_3, hcz8_4, hcz8_5, hcz8_6, hcz8_7, hcz8_8, hcz8_9, hfz8_0, hfz8_1, hfz8_2, hfz8_3, hfz8_4, hfz8_5, hfz8_6, hfz8_7, hfz8_8, hfz8_9⟩ := blk10 za.out) | ((with_reducible refine gate_dst (N := 16) rfl ?_); refine Kd.N_lit (Kd.slice 3 (Kd.int .i64)) _ 22 ?hg (N' := 16) ?hd (xs := ([l1] : List (List Int))) (inner := [.slice A1 l1.length c1]) (ok := (fun k_ => (P1_ k_ ∨ w.heap.size ≤ k_) ∧ k_ ≠ zb)) (okp := (fun k_ => (P1_ k_ ∨ w.heap.size ≤ k_) ∧ k_ ≠ zb)) ?hr ?hp (fun _ hk => hk) ((show ∀ k_, w7.heap.size ≤ k_ → (fun k_ => (P1_ k_ ∨ w.heap.size ≤ k_) ∧ k_ ≠ zb) k_ from fun k_ hk => ⟨(.inr (Nat.le_trans (below_size (qB1 HB zc)) hk)), Kd.freshB (g := zb) (pK za.out) k_ hk⟩) _ (Nat.le_refl _)) (Below.refl _ _) (Nat.le_refl _) (by simp) ?_; (case hd => rfl); (case hg => rfl); (case hr => first | (go_simp; done) | (go_simp; rfl)); (case hp => exact (Reps.one (show Kd.FK (Kd.slice 3 (Kd.int .i64)) _ _ l1 [.slice A1 l1.length c1] from (Kd.FK_slice_mk (Kd.V_reads' (Kd.V_mono (ok' := (fun k_ => (P1_ k_ ∨ w.heap.size ≤ k_) ∧ k_ ≠ zb)) (HO1.out) (fun k_ hk => ⟨hk.1, hk.2⟩))).2.1 (Kd.V_F (Kd.V_mono (ok' := (fun k_ => (P1_ k_ ∨ w.heap.size ≤ k_) ∧ k_ ≠ zb)) (HO1.out) (fun k_ hk => ⟨hk.1, hk.2⟩))))) (Reps.none _ _))); intro v442 w9 ho10 hb hg_ hnew_; clear hg_ hnew_; (first | rw [← zt.out] at ho10 | (simp only [Int.reduceToNat] at ho10; rw [← zt.out] at ho10)); replace HO1 := aM (Kd.V_elder' (pV HO1.out) (Kd.N_base ho10) hb); have zh := aM (Kd.N_lower ho10 (below_size (qB1 HB zc))); replace za := bK za hb; replace HB := bS (qB1 HB zc) hb; clear hb ho10; obtain ⟨Ao11, co11, eo11⟩ := Kd.N_slice zh.out; subst eo11) | ((with_reducible refine gate_callee (f := 10) rfl ?_); refine goesL_ (some 17) rfl rfl Try.func10 (by kernel_rfl) rfl #[.int .i64 39, .agg #[.int .i64 a0_0, .int .i64 a0_1, .int .i64 a0_2, .int .i64 a0_3, .int .i64 a0_4, .int .i64 a0_5, .int .i64 a0_6, .int .i64 a0_7, .bool a0_8, .slice A0_9 l0_9.length c0_9], .slice Ao11 zv.length co11] rfl pA ?_; (with_reducible refine (move_Dims.calls k 39 a0_0 a0_1 a0_2 a0_3 a0_4 a0_5 a0_6 a0_7 a0_8 _ _ l0_9 _ _ zv zk zo _ ?s1 ?s2 ?s3 ?s4 A4.out).mono ?_); (case s1 => exact sC zs HB); (case s2 => exact HC0_9.out); (case s3 => exact pC (Kd.N_reads' zh.out).2.2); (case s4 => exact (Kd.N_reads' zh.out).2.1); rintro e w12 ⟨z0, rfl, ho0, hb⟩; refine ⟨_, rfl, ?_⟩; replace HO1 := aM (Kd.V_elder' (pV HO1.out) (Kd.R_base ho0) hb); replace zh := aM (Kd.N_elder' (by (with_reducible repeat (first | apply Kd.N_alloc | apply Kd.N_drewN | apply Kd.N_drew)); exact zh.out) (Kd.R_base ho0) hb); have zl := aM (Kd.R_lower (Kd.R_newM (M := fun k_ => (w.heap.size ≤ k_)) ho0 (below_size (qB1 HB zc)) (fun k_ h_ => h_)) (below_size (qB1 HB zc))); replace za := bK za hb; replace HB := bS (qB1 HB zc) hb; (try clear hb); (try clear hk); (try clear hi); (try clear ho0)) | ((with_reducible refine gate_callee (f := 39) rfl ?_); refine goesL_ (some 23) rfl rfl Try.func39 (by kernel_rfl) rfl #[.slice A1 l1.length c1, .int .i64 a2] rfl pA ?_; (with_reducible refine (walk_At.calls k _ _ l1 a2 zd zz _ ?s1 ?s2 A5.out).mono ?_); (case s1 => exact pC (Kd.V_reads' HO1.out).2.2); (case s2 => exact (Kd.V_reads' HO1.out).2.1); rintro e w13 ⟨z1, rfl, ho0, hb⟩; refine ⟨_, rfl, ?_⟩; replace HO1 := aM (Kd.V_elder' (pV HO1.out) (Kd.R_base ho0) hb); replace zh := aM (Kd.N_elder' (by (with_reducible repeat (first | apply Kd.N_alloc | apply Kd.N_drewN | apply Kd.N_drew)); exact zh.out) (Kd.R_base ho0) hb); have zu := aM (Kd.R_lower (Kd.R_new' (Kd.R_newM (M := fun k_ => (w.heap.size ≤ k_)) ho0 (below_size (qB1 HB zc)) (fun k_ h_ => h_)) (Kd.R_lt (pR zl.out))) (below_size (qB1 HB zc))); replace zl := eR zl ho0 hb; replace za := bK za hb; replace HB := bS (qB1 HB zc) hb; (try clear hb); (try clear hk); (try clear hi); (try clear ho0)))
 (try simp only [Act.put, sP])
 go_cut [31] (fun v31 wc => ∃ (kq : Nat) (x31_5 : Bool), v31 = .bool x31_5 ∧ Aside0 (move_To.j0 kq zk zd x31_5 a0_0 a0_1 a0_2 a0_3 a0_4 a0_5 a0_6 a0_7 a0_8 l0_9 = some (r1, r2)) ∧ Aside0 (kq ≤ k) ∧ Aside0 (Kd.R (Kd.int .i64) 3 wc w.heap.size (fun k_ => (w.heap.size ≤ k_) ∧ some k_ ≠ (z1 : Value).ownBlock) z0 zk) ∧ Aside0 (Kd.R (Kd.int .i64) 3 wc w.heap.size (fun k_ => (w.heap.size ≤ k_) ∧ some k_ ≠ (z0 : Value).ownBlock) z1 zd) ∧ Aside0 (wc.heap[zb]? = some (.cells #[.int .i64 a0_0, .int .i64 a0_1, .int .i64 a0_2, .int .i64 a0_3, .int .i64 a0_4, .int .i64 a0_5, .int .i64 a0_6, .int .i64 a0_7, .bool a0_8, (.slice A0_9 l0_9.length c0_9)] 24 (0, 0))) ∧ Aside0 (Below w.heap.size w wc))
 case first =>
  have H := HC6.out
  clear HC6
  by_cases c14 : zo = 0
  rotate_left
  ·rw [if_neg c14] at H
   have zm : (zo == 0) = false := beq_eq_false_iff_ne.mpr c14
   have c14b1 : (zo != 0) = true := bne_iff_ne.mpr c14
   (first | rw [zm] | (simp only [i64_w, i32_w]; rw [zm]) | skip)
   have H' := aM H
   clear H
   go_wp2
   go_meet
   case rel => exact ⟨_, (true), (pF), H', ⟨by first | omega | exact Nat.le_refl _⟩, ⟨by (with_reducible repeat (first | apply rA | apply rN | apply rD)); exact Kd.R_mono zl.out (fun _ hk => ⟨hk.1.1, hk.2⟩)⟩, ⟨by (with_reducible repeat (first | apply rA | apply rN | apply rD)); exact Kd.R_mono zu.out (fun _ hk => ⟨hk.1.1, hk.2⟩)⟩, ⟨pK za.out⟩, ⟨qB1 HB zc⟩⟩
  rw [if_pos c14] at H
  have zm : (zo == 0) = true := beq_iff_eq.mpr c14
  have c14b1 : (zo != 0) = false := bne_eq_false_iff_eq.mpr c14
  clear c14
  (first | rw [zm] | (simp only [i64_w, i32_w]; rw [zm]) | skip)
  have H' := aM H
  clear H
  go_wp2
  go_meet
  case rel => exact ⟨_, (!zz), (pF), H', ⟨by first | omega | exact Nat.le_refl _⟩, ⟨by (with_reducible repeat (first | apply rA | apply rN | apply rD)); exact Kd.R_mono zl.out (fun _ hk => ⟨hk.1.1, hk.2⟩)⟩, ⟨by (with_reducible repeat (first | apply rA | apply rN | apply rD)); exact Kd.R_mono zu.out (fun _ hk => ⟨hk.1.1, hk.2⟩)⟩, ⟨pK za.out⟩, ⟨qB1 HB zc⟩⟩
 case rest =>
  clear HC6
  try clear c1
  try clear hcz8_0 hcz8_1 hcz8_2 hcz8_3 hcz8_4 hcz8_5 hcz8_6 hcz8_7 hcz8_8 hcz8_9 hfz8_0 hfz8_1 hfz8_2 hfz8_3 hfz8_4 hfz8_5 hfz8_6 hfz8_7 hfz8_8 hfz8_9
  obtain ⟨kq, x31_5, rfl, HA, HJ5, zj, zf, za, HB⟩ := hcut
  cases kq with
  | zero => exact absurd HA.out (by simp [move_To.j0])
  | succ kj5 =>
   have H := HA.out
   clear HA
   simp only [move_To.j0] at H
   by_cases c15 : x31_5 = true
   ·subst c15
    rw [if_pos rfl] at H
    simp only [Option.some.injEq, Prod.mk.injEq] at H
    obtain ⟨rfl, rfl⟩ := H
    go_wp2
    go_ret2
    exact ⟨pE, qB1 HB zc⟩
   replace c15 := Bool.eq_false_iff.mpr c15
   subst c15
   rw [if_neg (show ¬ (false = true) by decide)] at H
   replace H := Option.bind_eq_some_iff.mp H
   obtain ⟨zg, z2, H⟩ := H
   try dsimp only at H
   have A16 := aM z2
   clear z2
   by_cases c17 : 0 ≤ a0_0
   rotate_left
   ·rw [if_neg c17] at H
    exact absurd H (by simp)
   rw [if_pos c17] at H
   have c17b0 : decide (0 ≤ a0_0) = true := decide_eq_true c17
   clear c17
   by_cases c18 : a0_0 < (zd.length : Int)
   rotate_left
   ·rw [if_neg c18] at H
    exact absurd H (by simp)
   rw [if_pos c18] at H
   have c18b0 : decide (a0_0 < (zd.length : Int)) = true := decide_eq_true c18
   clear c18
   by_cases c19 : 0 ≤ (rd zd a0_0)
   rotate_left
   ·rw [if_neg c19] at H
    exact absurd H (by simp)
   rw [if_pos c19] at H
   have c19b0 : decide (0 ≤ (rd zd a0_0)) = true := decide_eq_true c19
   clear c19
   by_cases c20 : (rd zd a0_0) < (l0_9.length : Int)
   rotate_left
   ·rw [if_neg c20] at H
    exact absurd H (by simp)
   rw [if_pos c20] at H
   have c20b0 : decide ((rd zd a0_0) < (l0_9.length : Int)) = true := decide_eq_true c20
   clear c20
   by_cases c21 : a0_0 < (zg.length : Int)
   rotate_left
   ·rw [if_neg c21] at H
    exact absurd H (by simp)
   rw [if_pos c21] at H
   have c21b0 : decide (a0_0 < (zg.length : Int)) = true := decide_eq_true c21
   clear c21
   obtain ⟨zq, zr⟩ : ∃ y_ : List Int, y_ = (zg.set (a0_0 : Int).toNat (rd l0_9 (rd zd a0_0))) := ⟨_, rfl⟩
   replace H : ((walk_Place.f kj5 zk zq).bind fun bt458 => (some (bt458.1, bt458.2))) = some (r1, r2) := pH zr H
   have Ny457 := aM zr
   clear zr
   replace H := Option.bind_eq_some_iff.mp H
   obtain ⟨⟨t458, t459⟩, z3, H⟩ := H
   try dsimp only at H
   have A23 := aM z3
   clear z3
   simp only [Option.some.injEq, Prod.mk.injEq] at H
   obtain ⟨rfl, rfl⟩ := H
   obtain ⟨Ao24, zw, eo24⟩ := Kd.R_slice zf.out
   subst eo24
   try go_wp2_with (first | ((with_reducible refine gate_callee (f := 42) rfl ?_); refine goesL_ (some 33) rfl rfl Try.func42 (by kernel_rfl) rfl #[.slice Ao24 zd.length zw] rfl pA ?_; (with_reducible refine (slices_Clone_int_int.calls _ _ zd zg _ ?s1 ?s2 A16.out).mono ?_); (case s1 => exact sR zf); (case s2 => exact sL zf); rintro e w25 ⟨v453, rfl, ho0, hb⟩; refine ⟨_, rfl, ?_⟩; have zi := aM (Kd.R_lower (Kd.R_new' (Kd.R_new' (Kd.R_newM (M := fun k_ => (w.heap.size ≤ k_)) ho0 (below_size (qB1 HB zc)) (fun k_ h_ => h_)) (Kd.R_lt (pR zj.out))) (Kd.R_lt (pR zf.out))) (below_size (qB1 HB zc))); replace zj := eR zj ho0 hb; replace zf := eR zf ho0 hb; replace za := bK za hb; replace HB := bS (qB1 HB zc) hb; (try clear hb); (try clear hk); (try clear hi); (try clear ho0)))
   replace zj := aM (Kd.R_drew zj.out)
   replace zf := aM (Kd.R_drew zf.out)
   replace zi := aM (Kd.R_drew zi.out)
   replace za := aM (blk_drew za.out)
   replace HB := aM (below_drew1 HB.out)
   have p455 : 0 ≤ (a0_0 : Int) := of_decide_eq_true pD
   have q455 : a0_0 < (zd.length : Int) := of_decide_eq_true pD
   obtain ⟨ad455, e455, hx455_0⟩ := Kd.at_int (Kd.R_reads' zf.out).2.2 a0_0 p455 q455
   cases e455
   replace p455 := eq_true p455
   replace q455 := eq_true q455
   have p456 : 0 ≤ ((rd zd a0_0) : Int) := of_decide_eq_true pD
   have q456 : (rd zd a0_0) < (l0_9.length : Int) := of_decide_eq_true pD
   obtain ⟨ad456, e456, hx456_0⟩ := Kd.at_int zs.out (rd zd a0_0) p456 q456
   have hw456_0 := hx456_0
   cases e456
   replace hx456_0 := (HB.out.cell (World.block_lt_of_cell? w _ hx456_0)).trans hx456_0
   replace p456 := eq_true p456
   replace q456 := eq_true q456
   have p22 : 0 ≤ (a0_0 : Int) := of_decide_eq_true pD
   have q22 : (a0_0 : Int) < ((zg.length : Int) : Int) := of_decide_eq_true pD
   obtain ⟨go22, zx, z4, z5, gl22, cl22, HG22⟩ := Kd.R_form zi.out (by omega)
   (first | cases z4 | (injection z4 with ea_ en_ ec_; (first | subst ea_ | (injection ea_ with ea_; subst ea_)); subst ec_; clear en_))
   have GB22 := aM z5
   have GG22 := aM HG22
   clear z5 gl22 HG22
   obtain ⟨hx22_0, hf22_0⟩ := Kd.R_celln 0 zi.out (a0_0 : Int) p22 q22
   replace p22 := eq_true p22
   replace q22 := eq_true q22
   have HP27 := Kd.R_putn zi.out (a0_0 : Int) (rd l0_9 (rd zd a0_0))
   rw [← Ny457.out] at HP27
   have HQ27 := aM HP27
   clear HP27
   refine start_ (n := 14) (S := fun w' => w'.cell? ⟨zb, 0, none⟩ = some (.int .i64 a0_0) ∧ w'.cell? ⟨zb, 1, none⟩ = some (.int .i64 a0_1) ∧ w'.cell? ⟨zb, 2, none⟩ = some (.int .i64 a0_2) ∧ w'.cell? ⟨zb, 3, none⟩ = some (.int .i64 a0_3) ∧ w'.cell? ⟨zb, 4, none⟩ = some (.int .i64 a0_4) ∧ w'.cell? ⟨zb, 5, none⟩ = some (.int .i64 a0_5) ∧ w'.cell? ⟨zb, 6, none⟩ = some (.int .i64 a0_6) ∧ w'.cell? ⟨zb, 7, none⟩ = some (.int .i64 a0_7) ∧ w'.cell? ⟨zb, 8, none⟩ = some (.bool a0_8) ∧ w'.cell? ⟨zb, 9, none⟩ = some (.slice (some ad456) l0_9.length c0_9) ∧ w'.cell? (ad455.add (a0_0).toNat) = some (.int .i64 (rd zd a0_0)) ∧ w'.cell? (ad456.add ((rd zd a0_0)).toNat) = some (.int .i64 (rd l0_9 (rd zd a0_0)))) (ds := [13]) (bm 14 0) (by kernel_rfl) rfl rfl ⟨(blk_cell za.out 0).trans rfl, (blk_cell za.out 1).trans rfl, (blk_cell za.out 2).trans rfl, (blk_cell za.out 3).trans rfl, (blk_cell za.out 4).trans rfl, (blk_cell za.out 5).trans rfl, (blk_cell za.out 6).trans rfl, (blk_cell za.out 7).trans rfl, (blk_cell za.out 8).trans rfl, (blk_cell za.out 9).trans rfl, hx455_0, ((HB.out.cell (World.block_lt_of_cell? w _ hw456_0)).trans hw456_0)⟩ (fun hHeld => ?_); refine with_tabW move_To.tab6 move_To.bits6 (fun HT_ HW_ => ?_)
   generalize w25.drew = w26 at zj zf zi za HB GG22 HQ27 hf22_0 hx22_0 hx455_0 hx456_0 hHeld ⊢
   refine pP (i := 0) (N := some 34) (bm 14 1) rfl rfl HT_.out ?_
   refine pP (i := 1) (N := some 35) (bm 14 3) rfl rfl HT_.out ?_
   refine pP (i := 3) (N := some 37) (bm 14 11) rfl rfl HT_.out ?_
   refine pP (i := 5) (N := some 39) (bm 14 43) rfl rfl HT_.out ?_
   refine pP (i := 6) (N := some 40) (bm 14 107) rfl rfl HT_.out ?_
   refine pT (i := 2) (N := some 36) (bm 14 111) rfl rfl HT_.out HW_.out hHeld (by rintro w' ⟨s0, s1, s2, s3, s4, s5, s6, s7, s8, s9, s10, s11⟩; go_simp; with_reducible rfl) ?_
   refine pT (i := 4) (N := some 38) (bm 14 127) rfl rfl HT_.out HW_.out hHeld (by rintro w' ⟨s0, s1, s2, s3, s4, s5, s6, s7, s8, s9, s10, s11⟩; go_simp; with_reducible rfl) ?_
   refine pT (i := 7) (N := some 41) (bm 14 255) rfl rfl HT_.out HW_.out hHeld (by rintro w' ⟨s0, s1, s2, s3, s4, s5, s6, s7, s8, s9, s10, s11⟩; go_simp; with_reducible rfl) ?_
   refine pP (i := 8) (N := some 42) (bm 14 511) rfl rfl HT_.out ?_
   refine pT (i := 9) (N := some 43) (bm 14 1023) rfl rfl HT_.out HW_.out hHeld (by rintro w' ⟨s0, s1, s2, s3, s4, s5, s6, s7, s8, s9, s10, s11⟩; go_simp; with_reducible rfl) ?_
   refine pP (i := 10) (N := some 44) (bm 14 2047) rfl rfl HT_.out ?_
   refine pT (i := 11) (N := some 45) (bm 14 4095) rfl rfl HT_.out HW_.out hHeld (by rintro w' ⟨s0, s1, s2, s3, s4, s5, s6, s7, s8, s9, s10, s11⟩; go_simp; with_reducible rfl) ?_
   refine pP (i := 12) (N := some 46) (bm 14 8191) rfl rfl HT_.out ?_
   refine last_ (i := 13) (N := none) (bm 14 16383) rfl rfl (one_of HT_.out (by kernel_rfl)) (by decide) (fun K hK => ?_)
   refine skip_ (w1 := ?_) (by rfl) rfl ?_ ?_
   rotate_left
   ·go_simp
    rfl
   refine hK.out _ _ ?_
   clear hK K
   refine done_ (done_of HT_.out (by kernel_rfl)) ?_
   obtain ⟨z6, zy, eo28⟩ := Kd.R_slice zj.out
   subst eo28
   try go_wp2_with (first | ((with_reducible refine gate_callee (f := 41) rfl ?_); refine goesL_ (some 49) rfl rfl Try.func41 (by kernel_rfl) rfl #[.slice z6 zk.length zy, .slice (some ⟨go22, 0, none⟩) zq.length zx] rfl (by (try simp only [List.map_toArray, List.map_cons, List.map_nil]); first | done | (rw [show zq.length = zg.length from (Kd.R_reads' HQ27.out).1.symm] <;> rfl) | rfl | (simp only [List.length_drop, List.length_take]; rfl)) ?_; (with_reducible refine (walk_Place.calls kj5 _ _ zk _ _ zq t458 t459 _ ?s1 ?s2 ?s3 ?s4 A23.out).mono ?_); (case s1 => refine (Kd.R_reads' (e := 3) (base := w.heap.size) (ok := fun k_ => (((w.heap.size ≤ k_) ∧ some k_ ≠ (.slice (some ad455) zd.length zw : Value).ownBlock) ∧ some k_ ≠ (.slice (some ⟨go22, 0, none⟩) zg.length zx : Value).ownBlock)) (n := zk.length) (c := zy) ?_).2.2; exact (by (with_reducible repeat (first | apply rA | apply rN | apply rD)); exact (Kd.R_mono (Kd.R_far (p := ⟨go22, (a0_0 : Int).toNat, none⟩) (Kd.R_mono zj.out (fun k_ hk => (⟨hk, fun e_ => hk.2 (by rw [e_]; rfl)⟩ : _ ∧ k_ ≠ go22))) (fun _ hk => hk.2) (.int .i64 (rd l0_9 (rd zd a0_0)))) (fun _ h_ => h_.1)))); (case s2 => exact sL zj); (case s3 => refine (Kd.R_reads' (e := 3) (base := w.heap.size) (ok := fun k_ => ((((w.heap.size ≤ k_) ∧ True) ∧ some k_ ≠ (.slice z6 zk.length zy : Value).ownBlock) ∧ some k_ ≠ (.slice (some ad455) zd.length zw : Value).ownBlock)) (n := zg.length) (c := zx) ?_).2.2; exact (pR HQ27.out)); (case s4 => rw [show zq.length = zg.length from (Kd.R_reads' HQ27.out).1.symm]; exact sL zi); rintro e w' ⟨rfl, ⟨nd, rfl⟩⟩; refine ⟨_, rfl, ?_⟩))
   go_ret2
   exact ⟨pE, qB2 HB GB22 zc⟩
def gradinelaw29_same0.f (k : Nat)  : Option (Bool) := (move_From.f k 38 0 0 0 0 0 0 0 0 false (([2, 0, 2] : List Int)) (([(([3] : List Int))] : List (List Int))) 2).bind fun bt470 => ((move_To.f k 0 2 0 0 0 0 0 0 false (([0, 1, 0] : List Int)) (([3] : List Int)) 2).bind fun bt479 => (if bt470.1 = 0 then (if bt470.2.1 = 2 then (if bt470.2.2 = true then (if bt479.1 = 0 then (if bt479.2 = true then ((move_Sees.f 37).bind fun zf => (if zf = true then ((move_Sees.f 38).bind fun zg => (some (!zg))) else (some false))) else (some false)) else (some false)) else (some false)) else (some false)) else (some false)))
set_option maxHeartbeats 8000000 in
set_option maxRecDepth 100000 in
theorem gradinelaw29_same0.calls (k : Nat)  (w : World) (h : gradinelaw29_same0.f k  = some true) :
  Calls Try.prog 9 #[] w fun e w' => e = .returned (.bool true) ∧ Below w.heap.size w w' := by
 have hu24 := Try.underlying24
 have HB := aM (Below.refl w.heap.size w)
 have H : ((move_From.f k 38 0 0 0 0 0 0 0 0 false (([2, 0, 2] : List Int)) (([(([3] : List Int))] : List (List Int))) 2).bind fun bt470 => ((move_To.f k 0 2 0 0 0 0 0 0 false (([0, 1, 0] : List Int)) (([3] : List Int)) 2).bind fun bt479 => (if bt470.1 = 0 then (if bt470.2.1 = 2 then (if bt470.2.2 = true then (if bt479.1 = 0 then (if bt479.2 = true then ((move_Sees.f 37).bind fun zf => (if zf = true then ((move_Sees.f 38).bind fun zg => (some (!zg))) else (some false))) else (some false)) else (some false)) else (some false)) else (some false)) else (some false)))) = some true := h
 clear h
 obtain ⟨zh, zr⟩ : ∃ y_ : List Int, y_ = (([2, 0, 2] : List Int)) := ⟨_, rfl⟩
 replace H : ((move_From.f k 38 0 0 0 0 0 0 0 0 false zh (([(([3] : List Int))] : List (List Int))) 2).bind fun bt470 => ((move_To.f k 0 2 0 0 0 0 0 0 false (([0, 1, 0] : List Int)) (([3] : List Int)) 2).bind fun bt479 => (if bt470.1 = 0 then (if bt470.2.1 = 2 then (if bt470.2.2 = true then (if bt479.1 = 0 then (if bt479.2 = true then ((move_Sees.f 37).bind fun zf => (if zf = true then ((move_Sees.f 38).bind fun zg => (some (!zg))) else (some false))) else (some false)) else (some false)) else (some false)) else (some false)) else (some false)))) = some true := pH zr H
 have zy := aM zr
 clear zr
 obtain ⟨zp, zs⟩ : ∃ y_ : List Int, y_ = (([3] : List Int)) := ⟨_, rfl⟩
 replace H : ((move_From.f k 38 0 0 0 0 0 0 0 0 false zh (([zp] : List (List Int))) 2).bind fun bt470 => ((move_To.f k 0 2 0 0 0 0 0 0 false (([0, 1, 0] : List Int)) (([3] : List Int)) 2).bind fun bt479 => (if bt470.1 = 0 then (if bt470.2.1 = 2 then (if bt470.2.2 = true then (if bt479.1 = 0 then (if bt479.2 = true then ((move_Sees.f 37).bind fun zf => (if zf = true then ((move_Sees.f 38).bind fun zg => (some (!zg))) else (some false))) else (some false)) else (some false)) else (some false)) else (some false)) else (some false)))) = some true := pH zs H
 have zz := aM zs
 clear zs
 obtain ⟨z3, zt⟩ : ∃ y_ : List (List Int), y_ = (([zp] : List (List Int))) := ⟨_, rfl⟩
 replace H : ((move_From.f k 38 0 0 0 0 0 0 0 0 false zh z3 2).bind fun bt470 => ((move_To.f k 0 2 0 0 0 0 0 0 false (([0, 1, 0] : List Int)) (([3] : List Int)) 2).bind fun bt479 => (if bt470.1 = 0 then (if bt470.2.1 = 2 then (if bt470.2.2 = true then (if bt479.1 = 0 then (if bt479.2 = true then ((move_Sees.f 37).bind fun zf => (if zf = true then ((move_Sees.f 38).bind fun zg => (some (!zg))) else (some false))) else (some false)) else (some false)) else (some false)) else (some false)) else (some false)))) = some true := pH zt H
 have z0 := aM zt
 clear zt
 replace H := Option.bind_eq_some_iff.mp H
 obtain ⟨⟨zl, zm, z4⟩, A10, H⟩ := H
 try dsimp only at H
 have A1 := aM A10
 clear A10
 obtain ⟨zw, zu⟩ : ∃ y_ : List Int, y_ = (([0, 1, 0] : List Int)) := ⟨_, rfl⟩
 replace H : ((move_To.f k 0 2 0 0 0 0 0 0 false zw (([3] : List Int)) 2).bind fun bt479 => (if zl = 0 then (if zm = 2 then (if z4 = true then (if bt479.1 = 0 then (if bt479.2 = true then ((move_Sees.f 37).bind fun zf => (if zf = true then ((move_Sees.f 38).bind fun zg => (some (!zg))) else (some false))) else (some false)) else (some false)) else (some false)) else (some false)) else (some false))) = some true := pH zu H
 have z1 := aM zu
 clear zu
 obtain ⟨zx, zv⟩ : ∃ y_ : List Int, y_ = (([3] : List Int)) := ⟨_, rfl⟩
 replace H : ((move_To.f k 0 2 0 0 0 0 0 0 false zw zx 2).bind fun bt479 => (if zl = 0 then (if zm = 2 then (if z4 = true then (if bt479.1 = 0 then (if bt479.2 = true then ((move_Sees.f 37).bind fun zf => (if zf = true then ((move_Sees.f 38).bind fun zg => (some (!zg))) else (some false))) else (some false)) else (some false)) else (some false)) else (some false)) else (some false))) = some true := pH zv H
 have z2 := aM zv
 clear zv
 replace H := Option.bind_eq_some_iff.mp H
 obtain ⟨⟨zq, t480⟩, A20, H⟩ := H
 try dsimp only at H
 have A2 := aM A20
 clear A20
 by_cases c3 : zl = 0
 rotate_left
 ·rw [if_neg c3] at H
  have c3b0 : (zl == 0) = false := beq_eq_false_iff_ne.mpr c3
  have c3b1 : (zl != 0) = true := bne_iff_ne.mpr c3
  exact absurd H (by simp)
 rw [if_pos c3] at H
 have c3b0 : (zl == 0) = true := beq_iff_eq.mpr c3
 have c3b1 : (zl != 0) = false := bne_eq_false_iff_eq.mpr c3
 clear c3
 by_cases c4 : zm = 2
 rotate_left
 ·rw [if_neg c4] at H
  have c4b0 : (zm == 2) = false := beq_eq_false_iff_ne.mpr c4
  have c4b1 : (zm != 2) = true := bne_iff_ne.mpr c4
  exact absurd H (by simp)
 rw [if_pos c4] at H
 have c4b0 : (zm == 2) = true := beq_iff_eq.mpr c4
 have c4b1 : (zm != 2) = false := bne_eq_false_iff_eq.mpr c4
 clear c4
 by_cases c5 : z4 = true
 rotate_left
 ·replace c5 := Bool.eq_false_iff.mpr c5
  subst c5
  rw [if_neg (show ¬ (false = true) by decide)] at H
  exact absurd H (by simp)
 subst c5
 rw [if_pos rfl] at H
 by_cases c6 : zq = 0
 rotate_left
 ·rw [if_neg c6] at H
  have c6b0 : (zq == 0) = false := beq_eq_false_iff_ne.mpr c6
  have c6b1 : (zq != 0) = true := bne_iff_ne.mpr c6
  exact absurd H (by simp)
 rw [if_pos c6] at H
 have c6b0 : (zq == 0) = true := beq_iff_eq.mpr c6
 have c6b1 : (zq != 0) = false := bne_eq_false_iff_eq.mpr c6
 clear c6
 by_cases c7 : t480 = true
 rotate_left
 ·replace c7 := Bool.eq_false_iff.mpr c7
  subst c7
  rw [if_neg (show ¬ (false = true) by decide)] at H
  exact absurd H (by simp)
 subst c7
 rw [if_pos rfl] at H
 replace H := Option.bind_eq_some_iff.mp H
 obtain ⟨zf, A80, H⟩ := H
 try dsimp only at H
 have A8 := aM A80
 clear A80
 by_cases c9 : zf = true
 rotate_left
 ·replace c9 := Bool.eq_false_iff.mpr c9
  subst c9
  rw [if_neg (show ¬ (false = true) by decide)] at H
  exact absurd H (by simp)
 subst c9
 rw [if_pos rfl] at H
 replace H := Option.bind_eq_some_iff.mp H
 obtain ⟨zg, z5, H⟩ := H
 try dsimp only at H
 have A10 := aM z5
 clear z5
 have hv_ := aM (Option.some.inj H)
 clear H
 go_enter Try.func9, Try.ntmps9
 go_wp2_with (first | ((with_reducible refine gate_dst (N := 7) rfl ?_); refine Kd.R_lit (Kd.int .i64) _ 3 ?hg (N := 7) ?hd (xs := ([2, 0, 2] : List Int)) (inner := [.int .i64 2, .int .i64 0, .int .i64 2]) (ok := fun _ => True) (okp := fun _ => True) ?hr ?hp (fun _ hk => hk) trivial (Below.refl _ _) (Nat.le_refl _) (by simp) ?_; (case hd => rfl); (case hg => rfl); (case hr => first | (go_simp; done) | (go_simp; rfl)); (case hp => exact (Reps.one (show Kd.M (Kd.int .i64) _ _ _ 2 [.int .i64 2] from rfl) (Reps.one (show Kd.M (Kd.int .i64) _ _ _ 0 [.int .i64 0] from rfl) (Reps.one (show Kd.M (Kd.int .i64) _ _ _ 2 [.int .i64 2] from rfl) (Reps.none _ _))))); intro v461 w11 ho12 hb hg_ hnew_; clear hg_ hnew_; (first | rw [← zy.out] at ho12 | (simp only [Int.reduceToNat] at ho12; rw [← zy.out] at ho12)); have zb := aM (Kd.R_lower ho12 (below_size (qB HB))); replace HB := bS (qB HB) hb; clear hb ho12; obtain ⟨zj, zk, eo13⟩ := Kd.R_slice zb.out; subst eo13) | ((with_reducible refine gate_dst (N := 1) rfl ?_); refine box_event ?hg (N := 1) ?hd (cs := #[.int .i64 0, .int .i64 0, .int .i64 0, .int .i64 0, .int .i64 0, .int .i64 0, .int .i64 0, .int .i64 0, .bool false, .slice none 0 0]) (t := 24) ?hr ?_; (case hd => rfl); (case hg => rfl); (case hr => first | (go_simp; done) | (go_simp; rfl)); intro za hg w14 hbox hb; replace zb := bR zb hb; have zc := aM (hbox); have GW463 := gE (w := w) hg (qB HB); have ze := GW463; replace HB := bS (qB HB) hb; clear hb hbox hg; obtain ⟨hcz15_0, hcz15_1, hcz15_2, hcz15_3, hcz15_4, hcz15_5, hcz15_6, hcz15_7, hcz15_8, hcz15_9, hfz15_0, hfz15_1, hfz15_2, hfz15_3, hfz15_4, hfz15_5, hfz15_6, hfz15_7, hfz15_8, hfz15_9⟩ := blk10 zc.out) | ((with_reducible refine gate_dst (N := 11) rfl ?_); refine Kd.R_lit (Kd.int .i64) _ 3 ?hg (N := 11) ?hd (xs := ([3] : List Int)) (inner := [.int .i64 3]) (ok := fun _ => True) (okp := fun _ => True) ?hr ?hp (fun _ hk => hk) trivial (Below.refl _ _) (Nat.le_refl _) (by simp) ?_; (case hd => rfl); (case hg => rfl); (case hr => first | (go_simp; done) | (go_simp; rfl)); (case hp => exact (Reps.one (show Kd.M (Kd.int .i64) _ _ _ 3 [.int .i64 3] from rfl) (Reps.none _ _))); intro v465 w16 ho17 hb hg_ hnew_; clear hg_ hnew_; (first | rw [← zz.out] at ho17 | (simp only [Int.reduceToNat] at ho17; rw [← zz.out] at ho17)); have zn := aM (Kd.R_lower (Kd.R_new' ho17 (Kd.R_lt (by (with_reducible repeat (first | apply rA | apply rN | apply rD)); exact (Kd.R_mono (Kd.R_far (p := ⟨za, 9, none⟩) (Kd.R_far (p := ⟨za, 8, none⟩) (Kd.R_far (p := ⟨za, 7, none⟩) (Kd.R_far (p := ⟨za, 6, none⟩) (Kd.R_far (p := ⟨za, 5, none⟩) (Kd.R_far (p := ⟨za, 4, none⟩) (Kd.R_far (p := ⟨za, 3, none⟩) (Kd.R_far (p := ⟨za, 2, none⟩) (Kd.R_far (p := ⟨za, 1, none⟩) (Kd.R_far (p := ⟨za, 0, none⟩) (Kd.R_types zb.out zc.out (by decide)) (fun _ hk => hk.2) (.int .i64 0)) (fun _ hk => hk.2) (.int .i64 0)) (fun _ hk => hk.2) (.int .i64 0)) (fun _ hk => hk.2) (.int .i64 0)) (fun _ hk => hk.2) (.int .i64 0)) (fun _ hk => hk.2) (.int .i64 0)) (fun _ hk => hk.2) (.int .i64 0)) (fun _ hk => hk.2) (.int .i64 0)) (fun _ hk => hk.2) (.bool false)) (fun _ hk => hk.2) (.slice zj zh.length zk)) (fun _ h_ => h_.1))))) (below_size (qB1 HB ze))); replace zb := aM (Kd.R_elder' (by (with_reducible repeat (first | apply rA | apply rN | apply rD)); exact (Kd.R_mono (Kd.R_far (p := ⟨za, 9, none⟩) (Kd.R_far (p := ⟨za, 8, none⟩) (Kd.R_far (p := ⟨za, 7, none⟩) (Kd.R_far (p := ⟨za, 6, none⟩) (Kd.R_far (p := ⟨za, 5, none⟩) (Kd.R_far (p := ⟨za, 4, none⟩) (Kd.R_far (p := ⟨za, 3, none⟩) (Kd.R_far (p := ⟨za, 2, none⟩) (Kd.R_far (p := ⟨za, 1, none⟩) (Kd.R_far (p := ⟨za, 0, none⟩) (Kd.R_types zb.out zc.out (by decide)) (fun _ hk => hk.2) (.int .i64 0)) (fun _ hk => hk.2) (.int .i64 0)) (fun _ hk => hk.2) (.int .i64 0)) (fun _ hk => hk.2) (.int .i64 0)) (fun _ hk => hk.2) (.int .i64 0)) (fun _ hk => hk.2) (.int .i64 0)) (fun _ hk => hk.2) (.int .i64 0)) (fun _ hk => hk.2) (.int .i64 0)) (fun _ hk => hk.2) (.bool false)) (fun _ hk => hk.2) (.slice zj zh.length zk)) (fun _ h_ => h_.1))) (Kd.R_base ho17) hb); replace zc := aM (blk_below (g := za) (o := .cells #[.int .i64 0, .int .i64 0, .int .i64 0, .int .i64 0, .int .i64 0, .int .i64 0, .int .i64 0, .int .i64 0, .bool false, .slice zj zh.length zk] 24 (0, 0)) (by (with_reducible repeat (first | apply bN | apply bD | apply bA)); refine blk_put (cs := #[.int .i64 0, .int .i64 0, .int .i64 0, .int .i64 0, .int .i64 0, .int .i64 0, .int .i64 0, .int .i64 0, .bool false, .slice none 0 0]) ?_ 9 _ rfl; (with_reducible repeat (first | apply bN | apply bD | apply bA)); refine blk_put (cs := #[.int .i64 0, .int .i64 0, .int .i64 0, .int .i64 0, .int .i64 0, .int .i64 0, .int .i64 0, .int .i64 0, .bool false, .slice none 0 0]) ?_ 8 _ rfl; (with_reducible repeat (first | apply bN | apply bD | apply bA)); refine blk_put (cs := #[.int .i64 0, .int .i64 0, .int .i64 0, .int .i64 0, .int .i64 0, .int .i64 0, .int .i64 0, .int .i64 0, .bool false, .slice none 0 0]) ?_ 7 _ rfl; (with_reducible repeat (first | apply bN | apply bD | apply bA)); refine blk_put (cs := #[.int .i64 0, .int .i64 0, .int .i64 0, .int .i64 0, .int .i64 0, .int .i64 0, .int .i64 0, .int .i64 0, .bool false, .slice none 0 0]) ?_ 6 _ rfl; (with_reducible repeat (first | apply bN | apply bD | apply bA)); refine blk_put (cs := #[.int .i64 0, .int .i64 0, .int .i64 0, .int .i64 0, .int .i64 0, .int .i64 0, .int .i64 0, .int .i64 0, .bool false, .slice none 0 0]) ?_ 5 _ rfl; (with_reducible repeat (first | apply bN | apply bD | apply bA)); refine blk_put (cs := #[.int .i64 0, .int .i64 0, .int .i64 0, .int .i64 0, .int .i64 0, .int .i64 0, .int .i64 0, .int .i64 0, .bool false, .slice none 0 0]) ?_ 4 _ rfl; (with_reducible repeat (first | apply bN | apply bD | apply bA)); refine blk_put (cs := #[.int .i64 0, .int .i64 0, .int .i64 0, .int .i64 0, .int .i64 0, .int .i64 0, .int .i64 0, .int .i64 0, .bool false, .slice none 0 0]) ?_ 3 _ rfl; (with_reducible repeat (first | apply bN | apply bD | apply bA)); refine blk_put (cs := #[.int .i64 0, .int .i64 0, .int .i64 0, .int .i64 0, .int .i64 0, .int .i64 0, .int .i64 0, .int .i64 0, .bool false, .slice none 0 0]) ?_ 2 _ rfl; (with_reducible repeat (first | apply bN | apply bD | apply bA)); refine blk_put (cs := #[.int .i64 0, .int .i64 0, .int .i64 0, .int .i64 0, .int .i64 0, .int .i64 0, .int .i64 0, .int .i64 0, .bool false, .slice none 0 0]) ?_ 1 _ rfl; (with_reducible repeat (first | apply bN | apply bD | apply bA)); refine blk_put (cs := #[.int .i64 0, .int .i64 0, .int .i64 0, .int .i64 0, .int .i64 0, .int .i64 0, .int .i64 0, .int .i64 0, .bool false, .slice none 0 0]) ?_ 0 _ rfl; (with_reducible repeat (first | apply bN | apply bD | apply bA)); exact zc.out) hb); replace HB := bS (qB1 HB ze) hb; clear hb ho17; obtain ⟨z6, z7, eo18⟩ := Kd.R_slice zn.out; subst eo18) | ((with_reducible refine gate_dst (N := 12) rfl ?_); refine Kd.N_lit (Kd.slice 3 (Kd.int .i64)) _ 22 ?hg (N' := 12) ?hd (xs := ([zp] : List (List Int))) (inner := [.slice z6 zp.length z7]) (ok := (fun k_ => some k_ ≠ (.slice zj zh.length zk : Value).ownBlock ∧ k_ ≠ za)) (okp := (fun k_ => some k_ ≠ (.slice zj zh.length zk : Value).ownBlock ∧ k_ ≠ za)) ?hr ?hp (fun _ hk => hk) ((show ∀ k_, w16.heap.size ≤ k_ → (fun k_ => some k_ ≠ (.slice zj zh.length zk : Value).ownBlock ∧ k_ ≠ za) k_ from fun k_ hk => ⟨Kd.fresh' (Kd.R_lt (pR zb.out)) k_ hk, Kd.freshB (g := za) (pK zc.out) k_ hk⟩) _ (Nat.le_refl _)) (Below.refl _ _) (Nat.le_refl _) (by simp) ?_; (case hd => rfl); (case hg => rfl); (case hr => first | (go_simp; done) | (go_simp; rfl)); (case hp => exact (Reps.one (show Kd.FK (Kd.slice 3 (Kd.int .i64)) _ _ zp [.slice z6 zp.length z7] from (Kd.FK_slice_mk (Kd.R_reads' (Kd.R_mono (ok' := (fun k_ => some k_ ≠ (.slice zj zh.length zk : Value).ownBlock ∧ k_ ≠ za)) (Kd.R_types (zn.out) zc.out (by decide)) (fun k_ hk => ⟨hk.1.2, hk.2⟩))).2.1 (Kd.R_F (Kd.R_mono (ok' := (fun k_ => some k_ ≠ (.slice zj zh.length zk : Value).ownBlock ∧ k_ ≠ za)) (Kd.R_types (zn.out) zc.out (by decide)) (fun k_ hk => ⟨hk.1.2, hk.2⟩))))) (Reps.none _ _))); intro v468 w19 ho20 hb hg_ hnew_; clear hg_ hnew_; (first | rw [← z0.out] at ho20 | (simp only [Int.reduceToNat] at ho20; rw [← z0.out] at ho20)); replace zb := bR zb hb; have zd := aM (Kd.N_lower ho20 (below_size (qB1 HB ze))); replace zc := bK zc hb; replace HB := bS (qB1 HB ze) hb; clear zn; clear hb ho20; obtain ⟨Ao21, co21, eo21⟩ := Kd.N_slice zd.out; subst eo21) | ((with_reducible refine gate_callee (f := 15) rfl ?_); refine goesL_ (some 13) rfl rfl Try.func15 (by kernel_rfl) rfl #[.int .i64 38, .agg #[.int .i64 0, .int .i64 0, .int .i64 0, .int .i64 0, .int .i64 0, .int .i64 0, .int .i64 0, .int .i64 0, .bool false, .slice zj zh.length zk], .slice Ao21 z3.length co21, .int .i64 2] rfl pA ?_; (with_reducible refine (move_From.calls k 38 0 0 0 0 0 0 0 0 false _ _ zh _ _ z3 2 zl zm true _ ?s1 ?s2 ?s3 ?s4 A1.out).mono ?_); (case s1 => exact sR zb); (case s2 => exact sL zb); (case s3 => exact pC (Kd.N_reads' zd.out).2.2); (case s4 => exact (Kd.N_reads' zd.out).2.1); rintro e w22 ⟨rfl, hb⟩; refine ⟨_, rfl, ?_⟩; replace zb := bR zb hb; replace zd := aM (Kd.N_below (by (with_reducible repeat (first | apply Kd.N_alloc | apply Kd.N_drewN | apply Kd.N_drew)); exact zd.out) hb); replace zc := bK zc hb; replace HB := bS (qB1 HB ze) hb; (try clear hb); (try clear hk); (try clear hi)) | ((with_reducible refine gate_dst (N := 18) rfl ?_); refine Kd.R_lit (Kd.int .i64) _ 3 ?hg (N := 18) ?hd (xs := ([0, 1, 0] : List Int)) (inner := [.int .i64 0, .int .i64 1, .int .i64 0]) (ok := fun _ => True) (okp := fun _ => True) ?hr ?hp (fun _ hk => hk) trivial (Below.refl _ _) (Nat.le_refl _) (by simp) ?_; (case hd => rfl); (case hg => rfl); (case hr => first | (go_simp; done) | (go_simp; rfl)); (case hp => exact (Reps.one (show Kd.M (Kd.int .i64) _ _ _ 0 [.int .i64 0] from rfl) (Reps.one (show Kd.M (Kd.int .i64) _ _ _ 1 [.int .i64 1] from rfl) (Reps.one (show Kd.M (Kd.int .i64) _ _ _ 0 [.int .i64 0] from rfl) (Reps.none _ _))))); intro v474 w23 ho24 hb hg_ hnew_; clear hg_ hnew_; (first | rw [← z1.out] at ho24 | (simp only [Int.reduceToNat] at ho24; rw [← z1.out] at ho24)); replace zd := aM (Kd.N_elder' (by (with_reducible repeat (first | apply Kd.N_alloc | apply Kd.N_drewN | apply Kd.N_drew)); exact zd.out) (Kd.R_base ho24) hb); have zi := aM (Kd.R_lower (Kd.R_new' ho24 (Kd.R_lt (pR zb.out))) (below_size (qB1 HB ze))); replace zb := eR zb ho24 hb; replace zc := bK zc hb; replace HB := bS (qB1 HB ze) hb; clear hb ho24; obtain ⟨Ao25, co25, eo25⟩ := Kd.R_slice zi.out; subst eo25) | ((with_reducible refine gate_dst (N := 20) rfl ?_); refine Kd.R_lit (Kd.int .i64) _ 3 ?hg (N := 20) ?hd (xs := ([3] : List Int)) (inner := [.int .i64 3]) (ok := fun _ => True) (okp := fun _ => True) ?hr ?hp (fun _ hk => hk) trivial (Below.refl _ _) (Nat.le_refl _) (by simp) ?_; (case hd => rfl); (case hg => rfl); (case hr => first | (go_simp; done) | (go_simp; rfl)); (case hp => exact (Reps.one (show Kd.M (Kd.int .i64) _ _ _ 3 [.int .i64 3] from rfl) (Reps.none _ _))); intro v477 w26 ho27 hb hg_ hnew_; clear hg_ hnew_; (first | rw [← z2.out] at ho27 | (simp only [Int.reduceToNat] at ho27; rw [← z2.out] at ho27)); replace zd := aM (Kd.N_elder' (by (with_reducible repeat (first | apply Kd.N_alloc | apply Kd.N_drewN | apply Kd.N_drew)); exact zd.out) (Kd.R_base ho27) hb); have zo := aM (Kd.R_lower (Kd.R_new' (Kd.R_new' ho27 (Kd.R_lt (pR zb.out))) (Kd.R_lt (pR zi.out))) (below_size (qB1 HB ze))); replace zb := eR zb ho27 hb; replace zi := eR zi ho27 hb; replace zc := bK zc hb; replace HB := bS (qB1 HB ze) hb; clear hb ho27; obtain ⟨z8, z9, eo28⟩ := Kd.R_slice zo.out; subst eo28) | ((with_reducible refine gate_callee (f := 16) rfl ?_); refine goesL_ (some 21) rfl rfl Try.func16 (by kernel_rfl) rfl #[.agg #[.int .i64 0, .int .i64 2, .int .i64 0, .int .i64 0, .int .i64 0, .int .i64 0, .int .i64 0, .int .i64 0, .bool false, .slice Ao25 zw.length co25], .slice z8 zx.length z9, .int .i64 2] rfl pA ?_; (with_reducible refine (move_To.calls k 0 2 0 0 0 0 0 0 false _ _ zw (fun k_ => some k_ = (.slice z8 zx.length z9 : Value).ownBlock) _ _ zx 2 zq true _ ?s1 ?s2 ?s3 A2.out).mono ?_); (case s1 => exact sR zi); (case s2 => exact sL zi); (case s3 => exact Kd.R_V (Kd.R_tight rfl (Kd.R_types (Kd.R_apart' (zo.out) (Kd.N_typed zd.out) (by decide)) zc.out (by decide)))); rintro e w29 ⟨rfl, hb⟩; refine ⟨_, rfl, ?_⟩; replace zb := bR zb hb; replace zd := aM (Kd.N_below (by (with_reducible repeat (first | apply Kd.N_alloc | apply Kd.N_drewN | apply Kd.N_drew)); exact zd.out) hb); replace zi := bR zi hb; replace zo := bR zo hb; replace zc := bK zc hb; replace HB := bS (qB1 HB ze) hb; (try clear hb); (try clear hk); (try clear hi)) | (go_at_call 14; (with_reducible refine (move_Sees.calls 37 true _ A8.out).mono ?_); rintro e w' ⟨rfl, ⟨nd, rfl⟩⟩) | (go_at_call 14; (with_reducible refine (move_Sees.calls 38 zg _ A10.out).mono ?_); rintro e w' ⟨rfl, ⟨nd, rfl⟩⟩))
 go_ret
 replace hv_ := hv_.out
 exact ⟨pE, qB1 HB ze⟩
end Go.Proofs.Ytcdiobcldhiemaa.Q
namespace Go.Proofs.Ytcdiobcldhiemaa.Pure
open Go.RowKit Go.Proofs.Ytcdiobcldhiemaa.Q Go.Proofs.YtcdiobcldhiemaaW.PrintWords Go.Proofs.YtcdiobcldhiemaaW.PrintLast
theorem Same29 : ∃ k, gradinelaw29_same0.f k = some true := ⟨30, by decide +kernel⟩
end Go.Proofs.Ytcdiobcldhiemaa.Pure
namespace Go.Proofs.Ytcdiobcldhiemaa.Q
open Go.RowKit Go.Proofs.YtcdiobcldhiemaaW.PrintWords Go.Proofs.YtcdiobcldhiemaaW.PrintLast Go.Proofs.YtcdiobcldhiemaaW.PrintMore
attribute [local go_sem] max2_int min2_int max_two min_two max_three min_three max_four min_four   -- for this text's walks alone
set_option linter.unusedVariables false
set_option linter.unusedSimpArgs false
def gradinelaw29_same.f : Option Bool := some true
theorem gradinelaw29_same.calls (r : Bool) (w : World) (h : gradinelaw29_same.f = some r) : Calls Try.prog 9 #[] w fun e w' => e = .returned (.bool r) ∧ Below w.heap.size w w' := by
 obtain rfl := Option.some.inj h
 obtain ⟨k, hk⟩ := Pure.Same29
 exact gradinelaw29_same0.calls k w hk
def gradineplain_Ints.l0 : Nat → List Int → List Int → Int → Int → Option (Bool)
 | 0, _, _, _, _ => none
 | k + 1, x0, x1, x12, x13 => if x13 < x12 then (if 0 ≤ x13 then (if x13 < (x0.length : Int) then (if x13 < (x1.length : Int) then (if (rd x0 x13) = (rd x1 x13) then (gradineplain_Ints.l0 k x0 x1 x12 (wrap64 (x13 + 1))) else (some false)) else (none)) else (none)) else (none)) else (some true)
def gradineplain_Ints.f (k : Nat) (l0 : List Int) (l1 : List Int) : Option (Bool) := if (l0.length : Int) = (l1.length : Int) then (gradineplain_Ints.l0 k l0 l1 (l0.length : Int) 0) else (some false)
set_option maxHeartbeats 8000000 in
set_option maxRecDepth 100000 in
theorem gradineplain_Ints.calls (k : Nat) (A0 : Option Addr) (c0 : Nat) (l0 : List Int) (A1 : Option Addr) (c1 : Nat) (l1 : List Int) (r : Bool) (w : World) (hr0 : Kd.C (Kd.int .i64) w A0 l0.length l0) (hc0 : l0.length ≤ c0) (hr1 : Kd.C (Kd.int .i64) w A1 l1.length l1) (hc1 : l1.length ≤ c1) (h : gradineplain_Ints.f k l0 l1 = some r) :
  Calls Try.prog 12 #[.slice A0 l0.length c0, .slice A1 l1.length c1] w fun e w' => e = .returned (.bool r) ∧ Drawn0 w w' := by
 have HR0 := aM hr0
 have HC0 := aM hc0
 clear hr0 hc0
 have HR1 := aM hr1
 have HC1 := aM hc1
 clear hr1 hc1
 have H : (if (l0.length : Int) = (l1.length : Int) then (gradineplain_Ints.l0 k l0 l1 (l0.length : Int) 0) else (some false)) = some r := h
 clear h
 by_cases c3 : (l0.length : Int) = (l1.length : Int)
 rotate_left
 ·rw [if_neg c3] at H
  have za : ((l0.length : Int) == (l1.length : Int)) = false := beq_eq_false_iff_ne.mpr c3
  have zb : ((l0.length : Int) != (l1.length : Int)) = true := bne_iff_ne.mpr c3
  have zc : (l0.length == l1.length) = false := by first | simpa using c3 | (simp at c3 ⊢; omega)
  obtain rfl := Option.some.inj H
  go_enter Try.func12, Try.ntmps12
  go_wp2
  repeat (go_quiet (fail); try go_wp2)
  go_ret
  exact ⟨pF, by repeat (first | exact Drawn0.refl _ | apply Drawn0.step)⟩
 rw [if_pos c3] at H
 have za : ((l0.length : Int) == (l1.length : Int)) = true := beq_iff_eq.mpr c3
 have zb : ((l0.length : Int) != (l1.length : Int)) = false := bne_eq_false_iff_eq.mpr c3
 have zc : (l0.length == l1.length) = true := by first | simpa using c3 | (simp at c3 ⊢; omega)
 clear c3
 have H' := aM H
 clear H
 go_enter Try.func12, Try.ntmps12
 go_wp2
 repeat (go_quiet (fail); try go_wp2)
 go_loopg [13] k (fun kq v13 w' => ∃ (x13_1 : Int), v13 = .int .i64 x13_1 ∧ Aside0 (gradineplain_Ints.l0 kq l0 l1 (l0.length : Int) x13_1 = some r) ∧ Aside0 (kq ≤ k) ∧ Drawn0 w w')
 case atStart => exact ⟨(0), (pF), H', ⟨Nat.le_refl _⟩, by repeat (first | exact Drawn0.refl _ | apply Drawn0.step)⟩
 case round =>
  clear H'
  try clear c1
  try clear za
  try clear zb
  try clear zc
  obtain ⟨x13_1, rfl, HA, HK1, ⟨m1, rfl⟩⟩ := hrel
  cases gk with
  | zero => exact absurd HA.out (by simp [gradineplain_Ints.l0])
  | succ k1 =>
   have H := HA.out
   clear HA
   simp only [gradineplain_Ints.l0] at H
   by_cases c4 : x13_1 < (l0.length : Int)
   rotate_left
   ·rw [if_neg c4] at H
    have c4b0 : decide (x13_1 < (l0.length : Int)) = false := decide_eq_false c4
    clear c4
    obtain rfl := Option.some.inj H
    go_wp2
    repeat (go_quiet (fail); try go_wp2)
    go_ret
    exact ⟨pF, by repeat (first | exact Drawn0.refl _ | apply Drawn0.step)⟩
   rw [if_pos c4] at H
   have c4b0 : decide (x13_1 < (l0.length : Int)) = true := decide_eq_true c4
   clear c4
   by_cases c5 : 0 ≤ x13_1
   rotate_left
   ·rw [if_neg c5] at H
    exact absurd H (by simp)
   rw [if_pos c5] at H
   have c5b0 : decide (0 ≤ x13_1) = true := decide_eq_true c5
   clear c5
   by_cases c6 : x13_1 < (l0.length : Int)
   rotate_left
   ·rw [if_neg c6] at H
    exact absurd H (by simp)
   rw [if_pos c6] at H
   have c6b0 : decide (x13_1 < (l0.length : Int)) = true := decide_eq_true c6
   clear c6
   by_cases c7 : x13_1 < (l1.length : Int)
   rotate_left
   ·rw [if_neg c7] at H
    exact absurd H (by simp)
   rw [if_pos c7] at H
   have c7b0 : decide (x13_1 < (l1.length : Int)) = true := decide_eq_true c7
   clear c7
   by_cases c8 : (rd l0 x13_1) = (rd l1 x13_1)
   rotate_left
   ·rw [if_neg c8] at H
    have c8b0 : ((rd l0 x13_1) == (rd l1 x13_1)) = false := beq_eq_false_iff_ne.mpr c8
    have c8b1 : ((rd l0 x13_1) != (rd l1 x13_1)) = true := bne_iff_ne.mpr c8
    obtain rfl := Option.some.inj H
    have p860 : 0 ≤ (x13_1 : Int) := of_decide_eq_true pD
    have q860 : x13_1 < (l0.length : Int) := of_decide_eq_true pD
    obtain ⟨ad860, e860, hx860_0⟩ := Kd.at_int HR0.out x13_1 p860 q860
    cases e860
    replace p860 := eq_true p860
    replace q860 := eq_true q860
    have p861 : 0 ≤ (x13_1 : Int) := of_decide_eq_true pD
    have q861 : x13_1 < (l1.length : Int) := of_decide_eq_true pD
    obtain ⟨ad861, e861, hx861_0⟩ := Kd.at_int HR1.out x13_1 p861 q861
    cases e861
    replace p861 := eq_true p861
    replace q861 := eq_true q861
    go_wp2
    repeat (go_quiet (fail); try go_wp2)
    go_ret
    exact ⟨pF, by repeat (first | exact Drawn0.refl _ | apply Drawn0.step)⟩
   rw [if_pos c8] at H
   have c8b0 : ((rd l0 x13_1) == (rd l1 x13_1)) = true := beq_iff_eq.mpr c8
   have c8b1 : ((rd l0 x13_1) != (rd l1 x13_1)) = false := bne_eq_false_iff_eq.mpr c8
   clear c8
   have H' := aM H
   clear H
   have p860 : 0 ≤ (x13_1 : Int) := of_decide_eq_true pD
   have q860 : x13_1 < (l0.length : Int) := of_decide_eq_true pD
   obtain ⟨ad860, e860, hx860_0⟩ := Kd.at_int HR0.out x13_1 p860 q860
   cases e860
   replace p860 := eq_true p860
   replace q860 := eq_true q860
   have p861 : 0 ≤ (x13_1 : Int) := of_decide_eq_true pD
   have q861 : x13_1 < (l1.length : Int) := of_decide_eq_true pD
   obtain ⟨ad861, e861, hx861_0⟩ := Kd.at_int HR1.out x13_1 p861 q861
   cases e861
   replace p861 := eq_true p861
   replace q861 := eq_true q861
   go_wp2
   repeat (go_quiet (fail); try go_wp2)
   go_roundg k1
   case measure => have := HK1.out; omega
   case rel => exact ⟨(wrap64 (x13_1 + 1)), (pF), H', ⟨by have := HK1.out; omega⟩, by repeat (first | exact Drawn0.refl _ | apply Drawn0.step)⟩
mutual
def gradineref19_Check.l0 : Nat → List Int → Int → Int → Option (Int)
 | 0, _, _, _ => none
 | k + 1, x0, x10, x11 => if x11 < x10 then (if 0 ≤ x11 then (if x11 < (x0.length : Int) then (if (rd x0 x11) < 1 then (some 8) else (gradineref19_Check.l0 k x0 x10 (wrap64 (x11 + 1)))) else (none)) else (none)) else (gradineref19_Check.l1 k x0 1 (x0.length : Int) 0)
def gradineref19_Check.l1 : Nat → List Int → Int → Int → Int → Option (Int)
 | 0, _, _, _, _ => none
 | k + 1, x0, x4, x21, x22 => if x22 < x21 then (if 0 ≤ x22 then (if x22 < (x0.length : Int) then (if (rd x0 x22) > 64 then (some 12) else (if (wrap64 (x4 * (rd x0 x22))) > 64 then (some 12) else (gradineref19_Check.l1 k x0 (wrap64 (x4 * (rd x0 x22))) x21 (wrap64 (x22 + 1))))) else (none)) else (none)) else (some 0)
end
def gradineref19_Check.f (k : Nat) (l0 : List Int) : Option (Int) := if (l0.length : Int) > 6 then (some 9) else (gradineref19_Check.l0 k l0 (l0.length : Int) 0)
set_option maxHeartbeats 8000000 in
set_option maxRecDepth 100000 in
theorem gradineref19_Check.calls (k : Nat) (A0 : Option Addr) (c0 : Nat) (l0 : List Int) (r : Int) (w : World) (hr0 : Kd.C (Kd.int .i64) w A0 l0.length l0) (hc0 : l0.length ≤ c0) (h : gradineref19_Check.f k l0 = some r) :
  Calls Try.prog 30 #[.slice A0 l0.length c0] w fun e w' => e = .returned (.int .i64 r) ∧ Drawn0 w w' := by
 have HR0 := aM hr0
 have HC0 := aM hc0
 clear hr0 hc0
 have H : (if (l0.length : Int) > 6 then (some 9) else (gradineref19_Check.l0 k l0 (l0.length : Int) 0)) = some r := h
 clear h
 by_cases c2 : (l0.length : Int) > 6
 ·rw [if_pos c2] at H
  have za : decide (6 < (l0.length : Int)) = true := decide_eq_true c2
  have zb : decide (6 < l0.length) = true := decide_eq_true (by omega)
  clear c2
  obtain rfl := Option.some.inj H
  go_enter Try.func30, Try.ntmps30
  go_wp2
  go_ret
  exact ⟨pF, by repeat (first | exact Drawn0.refl _ | apply Drawn0.step)⟩
 rw [if_neg c2] at H
 have za : decide (6 < (l0.length : Int)) = false := decide_eq_false c2
 have zb : decide (6 < l0.length) = false := decide_eq_false (by omega)
 clear c2
 have H' := aM H
 clear H
 go_enter Try.func30, Try.ntmps30
 go_wp2
 go_loopg [11] k (fun kq v11 w' => ∃ (x11_1 : Int), v11 = .int .i64 x11_1 ∧ Aside0 (gradineref19_Check.l0 kq l0 (l0.length : Int) x11_1 = some r) ∧ Aside0 (kq ≤ k) ∧ Drawn0 w w')
 case atStart => exact ⟨(0), (pF), H', ⟨Nat.le_refl _⟩, by repeat (first | exact Drawn0.refl _ | apply Drawn0.step)⟩
 case round =>
  clear H'
  try clear za
  try clear zb
  obtain ⟨x11_1, rfl, HA, HK1, ⟨m1, rfl⟩⟩ := hrel
  cases gk with
  | zero => exact absurd HA.out (by simp [gradineref19_Check.l0])
  | succ k1 =>
   have H := HA.out
   clear HA
   simp only [gradineref19_Check.l0] at H
   by_cases c3 : x11_1 < (l0.length : Int)
   ·rw [if_pos c3] at H
    have zc : decide (x11_1 < (l0.length : Int)) = true := decide_eq_true c3
    clear c3
    by_cases c4 : 0 ≤ x11_1
    rotate_left
    ·rw [if_neg c4] at H
     exact absurd H (by simp)
    rw [if_pos c4] at H
    have c4b0 : decide (0 ≤ x11_1) = true := decide_eq_true c4
    clear c4
    by_cases c5 : x11_1 < (l0.length : Int)
    rotate_left
    ·rw [if_neg c5] at H
     exact absurd H (by simp)
    rw [if_pos c5] at H
    have c5b0 : decide (x11_1 < (l0.length : Int)) = true := decide_eq_true c5
    clear c5
    by_cases c6 : (rd l0 x11_1) < 1
    ·rw [if_pos c6] at H
     have c6b0 : decide ((rd l0 x11_1) < 1) = true := decide_eq_true c6
     clear c6
     obtain rfl := Option.some.inj H
     have p483 : 0 ≤ (x11_1 : Int) := of_decide_eq_true pD
     have q483 : x11_1 < (l0.length : Int) := of_decide_eq_true pD
     obtain ⟨ad483, e483, hx483_0⟩ := Kd.at_int HR0.out x11_1 p483 q483
     cases e483
     replace p483 := eq_true p483
     replace q483 := eq_true q483
     go_wp2
     go_ret
     exact ⟨pF, by repeat (first | exact Drawn0.refl _ | apply Drawn0.step)⟩
    rw [if_neg c6] at H
    have c6b0 : decide ((rd l0 x11_1) < 1) = false := decide_eq_false c6
    clear c6
    have H' := aM H
    clear H
    have p483 : 0 ≤ (x11_1 : Int) := of_decide_eq_true pD
    have q483 : x11_1 < (l0.length : Int) := of_decide_eq_true pD
    obtain ⟨ad483, e483, hx483_0⟩ := Kd.at_int HR0.out x11_1 p483 q483
    cases e483
    replace p483 := eq_true p483
    replace q483 := eq_true q483
    go_wp2
    go_roundg k1
    case measure => have := HK1.out; omega
    case rel => exact ⟨(wrap64 (x11_1 + 1)), (pF), H', ⟨by have := HK1.out; omega⟩, by repeat (first | exact Drawn0.refl _ | apply Drawn0.step)⟩
   rw [if_neg c3] at H
   have zc : decide (x11_1 < (l0.length : Int)) = false := decide_eq_false c3
   clear c3
   have H' := aM H
   clear H
   go_wp2
   go_loopg [4, 22] k1 (fun kq v4 v22 w' => ∃ (x4_2 : Int) (x22_2 : Int), v4 = .int .i64 x4_2 ∧ v22 = .int .i64 x22_2 ∧ Aside0 (gradineref19_Check.l1 kq l0 x4_2 (l0.length : Int) x22_2 = some r) ∧ Aside0 (kq ≤ k1) ∧ Drawn0 w w')
   case atStart => exact ⟨(1), (0), (pF), (pF), H', ⟨Nat.le_refl _⟩, by repeat (first | exact Drawn0.refl _ | apply Drawn0.step)⟩
   case round =>
    clear H'
    try clear zc
    obtain ⟨x4_2, x22_2, rfl, rfl, HA, HK2, ⟨m2, rfl⟩⟩ := hrel
    cases gk with
    | zero => exact absurd HA.out (by simp [gradineref19_Check.l1])
    | succ k2 =>
     have H := HA.out
     clear HA
     simp only [gradineref19_Check.l1] at H
     by_cases c7 : x22_2 < (l0.length : Int)
     rotate_left
     ·rw [if_neg c7] at H
      have c7b0 : decide (x22_2 < (l0.length : Int)) = false := decide_eq_false c7
      clear c7
      obtain rfl := Option.some.inj H
      go_wp2
      go_ret
      exact ⟨pF, by repeat (first | exact Drawn0.refl _ | apply Drawn0.step)⟩
     rw [if_pos c7] at H
     have c7b0 : decide (x22_2 < (l0.length : Int)) = true := decide_eq_true c7
     clear c7
     by_cases c8 : 0 ≤ x22_2
     rotate_left
     ·rw [if_neg c8] at H
      exact absurd H (by simp)
     rw [if_pos c8] at H
     have c8b0 : decide (0 ≤ x22_2) = true := decide_eq_true c8
     clear c8
     by_cases c9 : x22_2 < (l0.length : Int)
     rotate_left
     ·rw [if_neg c9] at H
      exact absurd H (by simp)
     rw [if_pos c9] at H
     have c9b0 : decide (x22_2 < (l0.length : Int)) = true := decide_eq_true c9
     clear c9
     by_cases c10 : (rd l0 x22_2) > 64
     ·rw [if_pos c10] at H
      have c10b0 : decide (64 < (rd l0 x22_2)) = true := decide_eq_true c10
      clear c10
      obtain rfl := Option.some.inj H
      have p484 : 0 ≤ (x22_2 : Int) := of_decide_eq_true pD
      have q484 : x22_2 < (l0.length : Int) := of_decide_eq_true pD
      obtain ⟨ad484, e484, hx484_0⟩ := Kd.at_int HR0.out x22_2 p484 q484
      cases e484
      replace p484 := eq_true p484
      replace q484 := eq_true q484
      go_wp2
      go_ret
      exact ⟨pF, by repeat (first | exact Drawn0.refl _ | apply Drawn0.step)⟩
     rw [if_neg c10] at H
     have c10b0 : decide (64 < (rd l0 x22_2)) = false := decide_eq_false c10
     clear c10
     by_cases c11 : (wrap64 (x4_2 * (rd l0 x22_2))) > 64
     ·rw [if_pos c11] at H
      have c11b0 : decide (64 < (wrap64 (x4_2 * (rd l0 x22_2)))) = true := decide_eq_true c11
      clear c11
      obtain rfl := Option.some.inj H
      have p484 : 0 ≤ (x22_2 : Int) := of_decide_eq_true pD
      have q484 : x22_2 < (l0.length : Int) := of_decide_eq_true pD
      obtain ⟨ad484, e484, hx484_0⟩ := Kd.at_int HR0.out x22_2 p484 q484
      cases e484
      replace p484 := eq_true p484
      replace q484 := eq_true q484
      have p485 : 0 ≤ (x22_2 : Int) := of_decide_eq_true pD
      have q485 : x22_2 < (l0.length : Int) := of_decide_eq_true pD
      obtain ⟨ad485, e485, hx485_0⟩ := Kd.at_int HR0.out x22_2 p485 q485
      obtain rfl : ad484 = ad485 := (by injection e485)
      replace p485 := eq_true p485
      replace q485 := eq_true q485
      go_wp2
      go_ret
      exact ⟨pF, by repeat (first | exact Drawn0.refl _ | apply Drawn0.step)⟩
     rw [if_neg c11] at H
     have c11b0 : decide (64 < (wrap64 (x4_2 * (rd l0 x22_2)))) = false := decide_eq_false c11
     clear c11
     have H' := aM H
     clear H
     have p484 : 0 ≤ (x22_2 : Int) := of_decide_eq_true pD
     have q484 : x22_2 < (l0.length : Int) := of_decide_eq_true pD
     obtain ⟨ad484, e484, hx484_0⟩ := Kd.at_int HR0.out x22_2 p484 q484
     cases e484
     replace p484 := eq_true p484
     replace q484 := eq_true q484
     have p485 : 0 ≤ (x22_2 : Int) := of_decide_eq_true pD
     have q485 : x22_2 < (l0.length : Int) := of_decide_eq_true pD
     obtain ⟨ad485, e485, hx485_0⟩ := Kd.at_int HR0.out x22_2 p485 q485
     obtain rfl : ad484 = ad485 := (by injection e485)
     replace p485 := eq_true p485
     replace q485 := eq_true q485
     have p486 : 0 ≤ (x22_2 : Int) := of_decide_eq_true pD
     have q486 : x22_2 < (l0.length : Int) := of_decide_eq_true pD
     obtain ⟨ad486, e486, hx486_0⟩ := Kd.at_int HR0.out x22_2 p486 q486
     obtain rfl : ad484 = ad486 := (by injection e486)
     replace p486 := eq_true p486
     replace q486 := eq_true q486
     go_wp2
     go_roundg k2
     case measure => have := HK1.out; have := HK2.out; omega
     case rel => exact ⟨(wrap64 (x4_2 * (rd l0 x22_2))), (wrap64 (x22_2 + 1)), (pF), (pF), H', ⟨by have := HK1.out; have := HK2.out; omega⟩, by repeat (first | exact Drawn0.refl _ | apply Drawn0.step)⟩
def gradineref19_Count.l0 : Nat → List Int → Int → Int → Int → Option (Int)
 | 0, _, _, _, _ => none
 | k + 1, x0, x3, x9, x10 => if x10 < x9 then (if 0 ≤ x10 then (if x10 < (x0.length : Int) then (gradineref19_Count.l0 k x0 (wrap64 (x3 * (rd x0 x10))) x9 (wrap64 (x10 + 1))) else (none)) else (none)) else (some x3)
def gradineref19_Count.f (k : Nat) (l0 : List Int) : Option (Int) := (gradineref19_Check.f k l0).bind fun za => (if za = 0 then (gradineref19_Count.l0 k l0 1 (l0.length : Int) 0) else (some 0))
set_option maxHeartbeats 8000000 in
set_option maxRecDepth 100000 in
theorem gradineref19_Count.calls (k : Nat) (A0 : Option Addr) (c0 : Nat) (l0 : List Int) (r : Int) (w : World) (hr0 : Kd.C (Kd.int .i64) w A0 l0.length l0) (hc0 : l0.length ≤ c0) (h : gradineref19_Count.f k l0 = some r) :
  Calls Try.prog 20 #[.slice A0 l0.length c0] w fun e w' => e = .returned (.int .i64 r) ∧ Drawn0 w w' := by
 have HR0 := aM hr0
 have HC0 := aM hc0
 clear hr0 hc0
 have H : ((gradineref19_Check.f k l0).bind fun za => (if za = 0 then (gradineref19_Count.l0 k l0 1 (l0.length : Int) 0) else (some 0))) = some r := h
 clear h
 replace H := Option.bind_eq_some_iff.mp H
 obtain ⟨za, A20, H⟩ := H
 try dsimp only at H
 have A2 := aM A20
 clear A20
 by_cases c3 : za = 0
 rotate_left
 ·rw [if_neg c3] at H
  have zb : (za == 0) = false := beq_eq_false_iff_ne.mpr c3
  have zc : (za != 0) = true := bne_iff_ne.mpr c3
  obtain rfl := Option.some.inj H
  go_enter Try.func20, Try.ntmps20
  go_wp2_with (first | ((with_reducible refine gate_callee (f := 30) rfl ?_); refine goesL_ (some 6) rfl rfl Try.func30 (by kernel_rfl) rfl #[.slice A0 l0.length c0] rfl pA ?_; (with_reducible refine (gradineref19_Check.calls k _ _ l0 za _ ?s1 ?s2 A2.out).mono ?_); (case s1 => exact pC HR0.out); (case s2 => exact HC0.out); rintro e w' ⟨rfl, ⟨nd, rfl⟩⟩; refine ⟨_, rfl, ?_⟩))
  go_ret
  exact ⟨pF, by repeat (first | exact Drawn0.refl _ | apply Drawn0.step)⟩
 rw [if_pos c3] at H
 have zb : (za == 0) = true := beq_iff_eq.mpr c3
 have zc : (za != 0) = false := bne_eq_false_iff_eq.mpr c3
 clear c3
 have H' := aM H
 clear H
 go_enter Try.func20, Try.ntmps20
 go_wp2_with (first | ((with_reducible refine gate_callee (f := 30) rfl ?_); refine goesL_ (some 6) rfl rfl Try.func30 (by kernel_rfl) rfl #[.slice A0 l0.length c0] rfl pA ?_; (with_reducible refine (gradineref19_Check.calls k _ _ l0 za _ ?s1 ?s2 A2.out).mono ?_); (case s1 => exact pC HR0.out); (case s2 => exact HC0.out); rintro e w' ⟨rfl, ⟨nd, rfl⟩⟩; refine ⟨_, rfl, ?_⟩))
 go_loopg [3, 10] k (fun kq v3 v10 w' => ∃ (x3_1 : Int) (x10_1 : Int), v3 = .int .i64 x3_1 ∧ v10 = .int .i64 x10_1 ∧ Aside0 (gradineref19_Count.l0 kq l0 x3_1 (l0.length : Int) x10_1 = some r) ∧ Aside0 (kq ≤ k) ∧ Drawn0 w w')
 case atStart => exact ⟨(1), (0), (pF), (pF), H', ⟨Nat.le_refl _⟩, by repeat (first | exact Drawn0.refl _ | apply Drawn0.step)⟩
 case round =>
  clear H'
  try clear zb
  try clear zc
  obtain ⟨x3_1, x10_1, rfl, rfl, HA, HK1, ⟨m1, rfl⟩⟩ := hrel
  cases gk with
  | zero => exact absurd HA.out (by simp [gradineref19_Count.l0])
  | succ k1 =>
   have H := HA.out
   clear HA
   simp only [gradineref19_Count.l0] at H
   by_cases c4 : x10_1 < (l0.length : Int)
   rotate_left
   ·rw [if_neg c4] at H
    have c4b0 : decide (x10_1 < (l0.length : Int)) = false := decide_eq_false c4
    clear c4
    obtain rfl := Option.some.inj H
    go_wp2
    go_ret
    exact ⟨pF, by repeat (first | exact Drawn0.refl _ | apply Drawn0.step)⟩
   rw [if_pos c4] at H
   have c4b0 : decide (x10_1 < (l0.length : Int)) = true := decide_eq_true c4
   clear c4
   by_cases c5 : 0 ≤ x10_1
   rotate_left
   ·rw [if_neg c5] at H
    exact absurd H (by simp)
   rw [if_pos c5] at H
   have c5b0 : decide (0 ≤ x10_1) = true := decide_eq_true c5
   clear c5
   by_cases c6 : x10_1 < (l0.length : Int)
   rotate_left
   ·rw [if_neg c6] at H
    exact absurd H (by simp)
   rw [if_pos c6] at H
   have c6b0 : decide (x10_1 < (l0.length : Int)) = true := decide_eq_true c6
   clear c6
   have H' := aM H
   clear H
   have p591 : 0 ≤ (x10_1 : Int) := of_decide_eq_true pD
   have q591 : x10_1 < (l0.length : Int) := of_decide_eq_true pD
   obtain ⟨ad591, e591, hx591_0⟩ := Kd.at_int HR0.out x10_1 p591 q591
   cases e591
   replace p591 := eq_true p591
   replace q591 := eq_true q591
   go_wp2
   go_roundg k1
   case measure => have := HK1.out; omega
   case rel => exact ⟨(wrap64 (x3_1 * (rd l0 x10_1))), (wrap64 (x10_1 + 1)), (pF), (pF), H', ⟨by have := HK1.out; omega⟩, by repeat (first | exact Drawn0.refl _ | apply Drawn0.step)⟩
def gradineref19_Has.l0 : Nat → List Int → Int → Int → Int → Option (Bool)
 | 0, _, _, _, _ => none
 | k + 1, x0, x1, x7, x8 => if x8 < x7 then (if 0 ≤ x8 then (if x8 < (x0.length : Int) then (if (rd x0 x8) = x1 then (some true) else (gradineref19_Has.l0 k x0 x1 x7 (wrap64 (x8 + 1)))) else (none)) else (none)) else (some false)
def gradineref19_Has.f (k : Nat) (l0 : List Int) (a1 : Int) : Option (Bool) := gradineref19_Has.l0 k l0 a1 (l0.length : Int) 0
set_option maxHeartbeats 8000000 in
set_option maxRecDepth 100000 in
theorem gradineref19_Has.calls (k : Nat) (A0 : Option Addr) (c0 : Nat) (l0 : List Int) (a1 : Int) (r : Bool) (w : World) (hr0 : Kd.C (Kd.int .i64) w A0 l0.length l0) (hc0 : l0.length ≤ c0) (h : gradineref19_Has.f k l0 a1 = some r) :
  Calls Try.prog 98 #[.slice A0 l0.length c0, .int .i64 a1] w fun e w' => e = .returned (.bool r) ∧ Drawn0 w w' := by
 have HR0 := aM hr0
 have HC0 := aM hc0
 clear hr0 hc0
 have H : (gradineref19_Has.l0 k l0 a1 (l0.length : Int) 0) = some r := h
 clear h
 have H' := aM H
 clear H
 go_enter Try.func98, Try.ntmps98
 go_wp2
 go_loopg [8] k (fun kq v8 w' => ∃ (x8_1 : Int), v8 = .int .i64 x8_1 ∧ Aside0 (gradineref19_Has.l0 kq l0 a1 (l0.length : Int) x8_1 = some r) ∧ Aside0 (kq ≤ k) ∧ Drawn0 w w')
 case atStart => exact ⟨(0), (pF), H', ⟨Nat.le_refl _⟩, by repeat (first | exact Drawn0.refl _ | apply Drawn0.step)⟩
 case round =>
  clear H'
  obtain ⟨x8_1, rfl, HA, HK1, ⟨m1, rfl⟩⟩ := hrel
  cases gk with
  | zero => exact absurd HA.out (by simp [gradineref19_Has.l0])
  | succ k1 =>
   have H := HA.out
   clear HA
   simp only [gradineref19_Has.l0] at H
   by_cases c3 : x8_1 < (l0.length : Int)
   rotate_left
   ·rw [if_neg c3] at H
    have c3b0 : decide (x8_1 < (l0.length : Int)) = false := decide_eq_false c3
    clear c3
    obtain rfl := Option.some.inj H
    go_wp2
    go_ret
    exact ⟨pF, by repeat (first | exact Drawn0.refl _ | apply Drawn0.step)⟩
   rw [if_pos c3] at H
   have c3b0 : decide (x8_1 < (l0.length : Int)) = true := decide_eq_true c3
   clear c3
   by_cases c4 : 0 ≤ x8_1
   rotate_left
   ·rw [if_neg c4] at H
    exact absurd H (by simp)
   rw [if_pos c4] at H
   have c4b0 : decide (0 ≤ x8_1) = true := decide_eq_true c4
   clear c4
   by_cases c5 : x8_1 < (l0.length : Int)
   rotate_left
   ·rw [if_neg c5] at H
    exact absurd H (by simp)
   rw [if_pos c5] at H
   have c5b0 : decide (x8_1 < (l0.length : Int)) = true := decide_eq_true c5
   clear c5
   by_cases c6 : (rd l0 x8_1) = a1
   ·rw [if_pos c6] at H
    have c6b0 : ((rd l0 x8_1) == a1) = true := beq_iff_eq.mpr c6
    have c6b1 : ((rd l0 x8_1) != a1) = false := bne_eq_false_iff_eq.mpr c6
    clear c6
    obtain rfl := Option.some.inj H
    have p607 : 0 ≤ (x8_1 : Int) := of_decide_eq_true pD
    have q607 : x8_1 < (l0.length : Int) := of_decide_eq_true pD
    obtain ⟨ad607, e607, hx607_0⟩ := Kd.at_int HR0.out x8_1 p607 q607
    cases e607
    replace p607 := eq_true p607
    replace q607 := eq_true q607
    go_wp2
    go_ret
    exact ⟨pF, by repeat (first | exact Drawn0.refl _ | apply Drawn0.step)⟩
   rw [if_neg c6] at H
   have c6b0 : ((rd l0 x8_1) == a1) = false := beq_eq_false_iff_ne.mpr c6
   have c6b1 : ((rd l0 x8_1) != a1) = true := bne_iff_ne.mpr c6
   have H' := aM H
   clear H
   have p607 : 0 ≤ (x8_1 : Int) := of_decide_eq_true pD
   have q607 : x8_1 < (l0.length : Int) := of_decide_eq_true pD
   obtain ⟨ad607, e607, hx607_0⟩ := Kd.at_int HR0.out x8_1 p607 q607
   cases e607
   replace p607 := eq_true p607
   replace q607 := eq_true q607
   go_wp2
   go_roundg k1
   case measure => have := HK1.out; omega
   case rel => exact ⟨(wrap64 (x8_1 + 1)), (pF), H', ⟨by have := HK1.out; omega⟩, by repeat (first | exact Drawn0.refl _ | apply Drawn0.step)⟩
end Go.Proofs.Ytcdiobcldhiemaa.Q
