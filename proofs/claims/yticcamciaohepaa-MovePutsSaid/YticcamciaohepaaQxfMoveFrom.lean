-- By wip/gprint.py (this session's), out of the kit's print.py.
import Derived.Test.YticcamciaohepaaQx0
import Derived.Test.YticcamciaohepaaQxfMoveDims
import Derived.Test.YticcamciaohepaaQxfMoveSeen
import Derived.Test.YticcamciaohepaaQxfWalkAt
import Derived.Test.YticcamciaohepaaQxfWalkPlace
namespace Go.Proofs.Yticcamciaohepaa.Q
open Go.RowKit Go.Proofs.YticcamciaohepaaW.PrintWords Go.Proofs.YticcamciaohepaaW.PrintLast Go.Proofs.YticcamciaohepaaW.PrintMore
attribute [local go_sem] max2_int min2_int max_two min_two max_three min_three max_four min_four   -- for this text's walks alone
set_option linter.unusedVariables false
set_option linter.unusedSimpArgs false

/-! ### move_From: function 12 -/
def move_From.j0 : Nat → Int → List (List Int) → Int → List Int → List Int → Bool → Int → Int → Int → Int → Int → Int → Int → Int → Bool → List Int → Option (Int × Int × Bool)
 | 0, _, _, _, _, _, _, _, _, _, _, _, _, _, _, _, _ => none
 | k + 1, x0, x2, x3, x11, x13, x41, ze, x432001, x432002, x432003, x432004, x432005, x432006, x432007, x432008, zk => if x41 = true then (some (0, 0, false)) else (if x0 = 38 then (if 0 ≤ ze then (if ze < (x13.length : Int) then (if 0 ≤ (rd x13 ze) then (if (rd x13 ze) < (zk.length : Int) then (if 0 < (x2.length : Int) then ((walk_Place.f k (rd_L1 x2 0) (x13.set (ze : Int).toNat (rd zk (rd x13 ze)))).bind fun bt444 => (some (0, bt444.1, true))) else (none)) else (none)) else (none)) else (none)) else (none)) else (if x0 = 40 then (if 0 < (x2.length : Int) then (if 0 ≤ ze then (if ze < ((rd_L1 x2 0).length : Int) then (if ze < (x13.length : Int) then (if (rd x13 ze) ≥ (rd (rd_L1 x2 0) ze) then (if 1 < (x2.length : Int) then ((walk_Place.f k (rd_L1 x2 1) (x13.set (ze : Int).toNat (wrap64 ((rd x13 ze) - (rd (rd_L1 x2 0) ze))))).bind fun bt452 => (some (1, bt452.1, true))) else (none)) else ((walk_Place.f k (rd_L1 x2 0) x13).bind fun bt455 => (some (0, bt455.1, true)))) else (none)) else (none)) else (none)) else (none)) else (if 0 < (x2.length : Int) then ((move_seen.f k x0 ze x432001 x432002 x432003 x432004 x432005 x432006 x432007 x432008 zk (rd_L1 x2 0) x11 x13 x3).bind fun bt458 => (some (0, bt458.1, true))) else (none))))
def move_From.f (k : Nat) (a0 : Int) (a1_0 : Int) (a1_1 : Int) (a1_2 : Int) (a1_3 : Int) (a1_4 : Int) (a1_5 : Int) (a1_6 : Int) (a1_7 : Int) (a1_8 : Bool) (l1_9 : List Int) (l2 : List (List Int)) (a3 : Int) : Option (Int × Int × Bool) := (move_Dims.f k a0 a1_0 a1_1 a1_2 a1_3 a1_4 a1_5 a1_6 a1_7 a1_8 l1_9 l2).bind fun bt432 => ((walk_At.f k bt432.1 a3).bind fun bt436 => (if bt432.2 = 0 then (if bt436.2 = true then (move_From.j0 k a0 l2 a3 bt432.1 bt436.1 (a0 == 39) a1_0 a1_1 a1_2 a1_3 a1_4 a1_5 a1_6 a1_7 a1_8 l1_9) else (move_From.j0 k a0 l2 a3 bt432.1 bt436.1 true a1_0 a1_1 a1_2 a1_3 a1_4 a1_5 a1_6 a1_7 a1_8 l1_9)) else (move_From.j0 k a0 l2 a3 bt432.1 bt436.1 true a1_0 a1_1 a1_2 a1_3 a1_4 a1_5 a1_6 a1_7 a1_8 l1_9)))
def move_From.T7 : Bool × List (List Nat × List Nat) := (true, [([], []), ([], []), ([], []), ([2], [2]), ([3], [3]), ([], []), ([], []), ([], []), ([0, 1, 4, 5, 6, 7], [0, 1, 4, 5, 6, 7]), ([8], []), ([8, 9, 0, 1, 2, 3, 4, 5, 6, 7, 8, 9], [8]), ([10, 0, 1, 2, 3, 4, 5, 6, 7, 8, 9, 10], [])])
def move_From.B7 : List Nat := [0, 0, 0, 4, 12, 0, 0, 0, 255, 511, 1023, 2047]
theorem move_From.tab7 : rtab .any (opsOf Try.f12 7) = move_From.T7 := by kernel_rfl
theorem move_From.bits7 : waitsOk move_From.T7.2 move_From.B7 = true := by kernel_rfl
def move_From.T9 : Bool × List (List Nat × List Nat) := (true, [([], []), ([], []), ([1], [1]), ([], []), ([3], [3]), ([], []), ([], []), ([6], [6]), ([5, 7], [5, 7]), ([8], [8]), ([4, 9], [4, 9]), ([10], [10]), ([0, 2, 0, 1, 2, 3, 4, 5, 6, 7, 8, 9, 10, 11], [0, 2]), ([12, 11, 0, 1, 2, 3, 4, 5, 6, 7, 8, 9, 10, 11], [11, 12])])
def move_From.B9 : List Nat := [0, 0, 2, 0, 8, 0, 0, 64, 224, 480, 1016, 2040, 4095, 8191]
theorem move_From.tab9 : rtab .any (opsOf Try.f12 9) = move_From.T9 := by kernel_rfl
theorem move_From.bits9 : waitsOk move_From.T9.2 move_From.B9 = true := by kernel_rfl
def move_From.T11 : Bool × List (List Nat × List Nat) := (true, [([], []), ([0], [0]), ([1], [1]), ([], []), ([3], [3]), ([2, 4], [2, 4]), ([5], [5]), ([6, 0, 1, 2, 3, 4, 5, 6], [6])])
def move_From.B11 : List Nat := [0, 1, 3, 0, 8, 31, 63, 127]
theorem move_From.tab11 : rtab .any (opsOf Try.f12 11) = move_From.T11 := by kernel_rfl
theorem move_From.bits11 : waitsOk move_From.T11.2 move_From.B11 = true := by kernel_rfl
set_option maxHeartbeats 8000000 in
set_option maxRecDepth 100000 in
theorem move_From.calls (k : Nat) (a0 : Int) (a1_0 : Int) (a1_1 : Int) (a1_2 : Int) (a1_3 : Int) (a1_4 : Int) (a1_5 : Int) (a1_6 : Int) (a1_7 : Int) (a1_8 : Bool) (A1_9 : Option Addr) (c1_9 : Nat) (l1_9 : List Int) (A2 : Option Addr) (c2 : Nat) (l2 : List (List Int)) (a3 : Int) (r1 : Int) (r2 : Int) (r3 : Bool) (w : World) (hr1_9 : Kd.C (Kd.int .i64) w A1_9 l1_9.length l1_9) (hc1_9 : l1_9.length ≤ c1_9) (hr2 : Kd.C (Kd.slice 3 (Kd.int .i64)) w A2 l2.length l2) (hc2 : l2.length ≤ c2) (h : move_From.f k a0 a1_0 a1_1 a1_2 a1_3 a1_4 a1_5 a1_6 a1_7 a1_8 l1_9 l2 a3 = some (r1, r2, r3)) :
  Calls Try.prog 12 #[.int .i64 a0, .agg #[.int .i64 a1_0, .int .i64 a1_1, .int .i64 a1_2, .int .i64 a1_3, .int .i64 a1_4, .int .i64 a1_5, .int .i64 a1_6, .int .i64 a1_7, .bool a1_8, .slice A1_9 l1_9.length c1_9], .slice A2 l2.length c2, .int .i64 a3] w fun e w' => e = .returned (.tuple #[.int .i64 r1, .int .i64 r2, .bool r3]) ∧ Below w.heap.size w w' := by
 have hu24 := Try.underlying24
 have zr := aM hr1_9
 have zz := aM hc1_9
 clear hr1_9 hc1_9
 have HR2 := aM hr2
 have HC2 := aM hc2
 clear hr2 hc2
 have HB := aM (Below.refl w.heap.size w)
 have H : ((move_Dims.f k a0 a1_0 a1_1 a1_2 a1_3 a1_4 a1_5 a1_6 a1_7 a1_8 l1_9 l2).bind fun bt432 => ((walk_At.f k bt432.1 a3).bind fun bt436 => (if bt432.2 = 0 then (if bt436.2 = true then (move_From.j0 k a0 l2 a3 bt432.1 bt436.1 (a0 == 39) a1_0 a1_1 a1_2 a1_3 a1_4 a1_5 a1_6 a1_7 a1_8 l1_9) else (move_From.j0 k a0 l2 a3 bt432.1 bt436.1 true a1_0 a1_1 a1_2 a1_3 a1_4 a1_5 a1_6 a1_7 a1_8 l1_9)) else (move_From.j0 k a0 l2 a3 bt432.1 bt436.1 true a1_0 a1_1 a1_2 a1_3 a1_4 a1_5 a1_6 a1_7 a1_8 l1_9)))) = some (r1, r2, r3) := h
 clear h
 replace H := Option.bind_eq_some_iff.mp H
 obtain ⟨⟨zj, zn⟩, A50, H⟩ := H
 try dsimp only at H
 have A5 := aM A50
 clear A50
 replace H := Option.bind_eq_some_iff.mp H
 obtain ⟨⟨zd, z0⟩, A60, H⟩ := H
 try dsimp only at H
 have A6 := aM A60
 clear A60
 have HC7 := aM H
 clear H
 go_enter Try.func12, Try.ntmps12
 go_upto_region 3 with (first | ((with_reducible refine gate_dst (N := 5) rfl ?_); refine box_event ?hg (N := 5) ?hd (cs := #[.int .i64 a1_0, .int .i64 a1_1, .int .i64 a1_2, .int .i64 a1_3, .int .i64 a1_4, .int .i64 a1_5, .int .i64 a1_6, .int .i64 a1_7, .bool a1_8, .slice A1_9 l1_9.length c1_9]) (t := 24) ?hr ?_; (case hd => rfl); (case hg => rfl); (case hr => first | (go_simp; done) | (go_simp; rfl)); intro zb hg w8 hbox hb; have za := aM (hbox); have GW431 := gE (w := w) hg (qB HB); have zg := GW431; replace HB := bS (qB HB) hb; clear hb hbox hg; obtain ⟨hcz9_0, hcz9_1, hcz9_2, hcz9_3, hcz9_4, hcz9_5, hcz9_6, hcz9_7, hcz9_8, hcz9_9, hfz9_0, hfz9_1, hfz9_2, hfz9_3, hfz9_4, hfz9_5, hfz9_6, hfz9_7, hfz9_8, hfz9_9⟩ := blk10 za.out) | ((with_reducible refine gate_callee (f := 10) rfl ?_); refine goesL_ (some 23) rfl rfl Try.func10 (by kernel_rfl) rfl #[.int .i64 a0, .agg #[.int .i64 a1_0, .int .i64 a1_1, .int .i64 a1_2, .int .i64 a1_3, .int .i64 a1_4, .int .i64 a1_5, .int .i64 a1_6, .int .i64 a1_7, .bool a1_8, .slice A1_9 l1_9.length c1_9], .slice A2 l2.length c2] rfl pA ?_; (with_reducible refine (move_Dims.calls k a0 a1_0 a1_1 a1_2 a1_3 a1_4 a1_5 a1_6 a1_7 a1_8 _ _ l1_9 _ _ l2 zj zn _ ?s1 ?s2 ?s3 ?s4 A5.out).mono ?_); (case s1 => exact sC zr HB); (case s2 => exact zz.out); (case s3 => exact sC HR2 HB); (case s4 => exact HC2.out); rintro e w10 ⟨v433, rfl, ho0, hb⟩; refine ⟨_, rfl, ?_⟩; have zh := aM (Kd.R_lower ho0 (below_size (qB1 HB zg))); replace za := bK za hb; replace HB := bS (qB1 HB zg) hb; (try clear hb); (try clear hk); (try clear hi); (try clear ho0); obtain ⟨zo, zp, eo11⟩ := Kd.R_slice zh.out; subst eo11) | ((with_reducible refine gate_callee (f := 18) rfl ?_); refine goesL_ (some 29) rfl rfl Try.func18 (by kernel_rfl) rfl #[.slice zo zj.length zp, .int .i64 a3] rfl pA ?_; (with_reducible refine (walk_At.calls k _ _ zj a3 zd z0 _ ?s1 ?s2 A6.out).mono ?_); (case s1 => exact sR zh); (case s2 => exact sL zh); rintro e w12 ⟨z1, rfl, ho0, hb⟩; refine ⟨_, rfl, ?_⟩; have zs := aM (Kd.R_lower (Kd.R_new' ho0 (Kd.R_lt (pR zh.out))) (below_size (qB1 HB zg))); replace zh := eR zh ho0 hb; replace za := bK za hb; replace HB := bS (qB1 HB zg) hb; (try clear hb); (try clear hk); (try clear hi); (try clear ho0)))
 (try simp only [Act.put, sP])
 go_cut [41] (fun v41 wc => ∃ (kq : Nat) (x41_6 : Bool), v41 = .bool x41_6 ∧ Aside0 (move_From.j0 kq a0 l2 a3 zj zd x41_6 a1_0 a1_1 a1_2 a1_3 a1_4 a1_5 a1_6 a1_7 a1_8 l1_9 = some (r1, r2, r3)) ∧ Aside0 (kq ≤ k) ∧ Aside0 (Kd.R (Kd.int .i64) 3 wc w.heap.size (fun k_ => some k_ ≠ (z1 : Value).ownBlock) (.slice zo zj.length zp) zj) ∧ Aside0 (Kd.R (Kd.int .i64) 3 wc w.heap.size (fun k_ => some k_ ≠ ((.slice zo zj.length zp) : Value).ownBlock) z1 zd) ∧ Aside0 (wc.heap[zb]? = some (.cells #[.int .i64 a1_0, .int .i64 a1_1, .int .i64 a1_2, .int .i64 a1_3, .int .i64 a1_4, .int .i64 a1_5, .int .i64 a1_6, .int .i64 a1_7, .bool a1_8, (.slice A1_9 l1_9.length c1_9)] 24 (0, 0))) ∧ Aside0 (Below w.heap.size w wc))
 case first =>
  have H := HC7.out
  clear HC7
  by_cases c13 : zn = 0
  rotate_left
  ·rw [if_neg c13] at H
   have zl : (zn == 0) = false := beq_eq_false_iff_ne.mpr c13
   have c13b1 : (zn != 0) = true := bne_iff_ne.mpr c13
   (first | rw [zl] | (simp only [i64_w, i32_w]; rw [zl]) | skip)
   have H' := aM H
   clear H
   go_wp2
   go_meet
   case rel => exact ⟨_, (true), (pF), H', ⟨by first | omega | exact Nat.le_refl _⟩, ⟨by (with_reducible repeat (first | apply rA | apply rN | apply rD)); exact Kd.R_mono zh.out (fun _ hk => hk.2)⟩, ⟨by (with_reducible repeat (first | apply rA | apply rN | apply rD)); exact Kd.R_mono zs.out (fun _ hk => hk.2)⟩, ⟨pK za.out⟩, ⟨qB1 HB zg⟩⟩
  rw [if_pos c13] at H
  have zl : (zn == 0) = true := beq_iff_eq.mpr c13
  have c13b1 : (zn != 0) = false := bne_eq_false_iff_eq.mpr c13
  clear c13
  (first | rw [zl] | (simp only [i64_w, i32_w]; rw [zl]) | skip)
  by_cases c14 : z0 = true
  ·subst c14
   rw [if_pos rfl] at H
   have H' := aM H
   clear H
   go_wp2
   go_meet
   case rel => exact ⟨_, ((a0 == 39)), (pF), H', ⟨by first | omega | exact Nat.le_refl _⟩, ⟨by (with_reducible repeat (first | apply rA | apply rN | apply rD)); exact Kd.R_mono zh.out (fun _ hk => hk.2)⟩, ⟨by (with_reducible repeat (first | apply rA | apply rN | apply rD)); exact Kd.R_mono zs.out (fun _ hk => hk.2)⟩, ⟨pK za.out⟩, ⟨qB1 HB zg⟩⟩
  replace c14 := Bool.eq_false_iff.mpr c14
  subst c14
  rw [if_neg (show ¬ (false = true) by decide)] at H
  have H' := aM H
  clear H
  go_wp2
  go_meet
  case rel => exact ⟨_, (true), (pF), H', ⟨by first | omega | exact Nat.le_refl _⟩, ⟨by (with_reducible repeat (first | apply rA | apply rN | apply rD)); exact Kd.R_mono zh.out (fun _ hk => hk.2)⟩, ⟨by (with_reducible repeat (first | apply rA | apply rN | apply rD)); exact Kd.R_mono zs.out (fun _ hk => hk.2)⟩, ⟨pK za.out⟩, ⟨qB1 HB zg⟩⟩
 case rest =>
  clear HC7
  try clear c2
  try clear hcz9_0 hcz9_1 hcz9_2 hcz9_3 hcz9_4 hcz9_5 hcz9_6 hcz9_7 hcz9_8 hcz9_9 hfz9_0 hfz9_1 hfz9_2 hfz9_3 hfz9_4 hfz9_5 hfz9_6 hfz9_7 hfz9_8 hfz9_9
  obtain ⟨kq, x41_6, rfl, HA, HJ6, zf, zc, za, HB⟩ := hcut
  cases kq with
  | zero => exact absurd HA.out (by simp [move_From.j0])
  | succ kj6 =>
   have H := HA.out
   clear HA
   simp only [move_From.j0] at H
   by_cases c15 : x41_6 = true
   ·subst c15
    rw [if_pos rfl] at H
    simp only [Option.some.injEq, Prod.mk.injEq] at H
    obtain ⟨rfl, rfl, rfl⟩ := H
    go_wp2
    go_ret3
    exact ⟨pE, qB1 HB zg⟩
   replace c15 := Bool.eq_false_iff.mpr c15
   subst c15
   rw [if_neg (show ¬ (false = true) by decide)] at H
   by_cases c16 : a0 = 38
   ·rw [if_pos c16] at H
    have c16b0 : (a0 == 38) = true := beq_iff_eq.mpr c16
    have c16b1 : (a0 != 38) = false := bne_eq_false_iff_eq.mpr c16
    clear c16
    by_cases c17 : 0 ≤ a1_0
    rotate_left
    ·rw [if_neg c17] at H
     exact absurd H (by simp)
    rw [if_pos c17] at H
    have c17b0 : decide (0 ≤ a1_0) = true := decide_eq_true c17
    clear c17
    by_cases c18 : a1_0 < (zd.length : Int)
    rotate_left
    ·rw [if_neg c18] at H
     exact absurd H (by simp)
    rw [if_pos c18] at H
    have c18b0 : decide (a1_0 < (zd.length : Int)) = true := decide_eq_true c18
    clear c18
    by_cases c19 : 0 ≤ (rd zd a1_0)
    rotate_left
    ·rw [if_neg c19] at H
     exact absurd H (by simp)
    rw [if_pos c19] at H
    have c19b0 : decide (0 ≤ (rd zd a1_0)) = true := decide_eq_true c19
    clear c19
    by_cases c20 : (rd zd a1_0) < (l1_9.length : Int)
    rotate_left
    ·rw [if_neg c20] at H
     exact absurd H (by simp)
    rw [if_pos c20] at H
    have c20b0 : decide ((rd zd a1_0) < (l1_9.length : Int)) = true := decide_eq_true c20
    clear c20
    obtain ⟨zt, zu⟩ : ∃ y_ : List Int, y_ = (zd.set (a1_0 : Int).toNat (rd l1_9 (rd zd a1_0))) := ⟨_, rfl⟩
    replace H : (if 0 < (l2.length : Int) then ((walk_Place.f kj6 (rd_L1 l2 0) zt).bind fun bt444 => (some (0, bt444.1, true))) else (none)) = some (r1, r2, r3) := pH zu H
    have Ny442 := aM zu
    clear zu
    by_cases c22 : 0 < (l2.length : Int)
    rotate_left
    ·rw [if_neg c22] at H
     exact absurd H (by simp)
    rw [if_pos c22] at H
    have c22b0 : decide (0 < (l2.length : Int)) = true := decide_eq_true c22
    have c22b1 : decide (0 < l2.length) = true := decide_eq_true (by omega)
    clear c22
    replace H := Option.bind_eq_some_iff.mp H
    obtain ⟨⟨t444, t445⟩, z2, H⟩ := H
    try dsimp only at H
    have A23 := aM z2
    clear z2
    simp only [Option.some.injEq, Prod.mk.injEq] at H
    obtain ⟨rfl, rfl, rfl⟩ := H
    try go_wp2
    replace zf := aM (Kd.R_drew zf.out)
    replace zc := aM (Kd.R_drew zc.out)
    replace za := aM (blk_drew za.out)
    replace HB := aM (below_drew1 HB.out)
    obtain ⟨Ao25, z3, z4⟩ := Kd.R_slice zc.out
    (first | subst z4 | (injection z4 with f1_ f2_ f3_; have f4_ := f1_.symm; have f5_ := f3_.symm; clear f1_ f2_ f3_; subst f4_; subst f5_))
    have p440 : 0 ≤ (a1_0 : Int) := of_decide_eq_true pD
    have q440 : a1_0 < (zd.length : Int) := of_decide_eq_true pD
    obtain ⟨ad440, e440, hx440_0⟩ := Kd.at_int (Kd.R_reads' zc.out).2.2 a1_0 p440 q440
    cases e440
    replace p440 := eq_true p440
    replace q440 := eq_true q440
    have p441 : 0 ≤ ((rd zd a1_0) : Int) := of_decide_eq_true pD
    have q441 : (rd zd a1_0) < (l1_9.length : Int) := of_decide_eq_true pD
    obtain ⟨ad441, e441, hx441_0⟩ := Kd.at_int zr.out (rd zd a1_0) p441 q441
    have hw441_0 := hx441_0
    cases e441
    replace hx441_0 := (HB.out.cell (World.block_lt_of_cell? w _ hx441_0)).trans hx441_0
    replace p441 := eq_true p441
    replace q441 := eq_true q441
    have p21 : 0 ≤ (a1_0 : Int) := of_decide_eq_true pD
    have q21 : (a1_0 : Int) < ((zd.length : Int) : Int) := of_decide_eq_true pD
    obtain ⟨go21, co21, z5, z6, gl21, cl21, HG21⟩ := Kd.R_form zc.out (by omega)
    (first | cases z5 | (injection z5 with ea_ en_ ec_; (first | subst ea_ | (injection ea_ with ea_; subst ea_)); subst ec_; clear en_))
    have GB21 := aM z6
    have GG21 := aM HG21
    clear z6 gl21 HG21
    (first | simp only [add_plain] at hx440_0 | skip)
    obtain ⟨hx21_0, hf21_0⟩ := Kd.R_celln 0 zc.out (a1_0 : Int) p21 q21
    replace p21 := eq_true p21
    replace q21 := eq_true q21
    have HP26 := Kd.R_putn zc.out (a1_0 : Int) (rd l1_9 (rd zd a1_0))
    rw [← Ny442.out] at HP26
    have HQ26 := aM HP26
    clear HP26
    refine start_ (n := 14) (S := fun w' => w'.cell? ⟨zb, 0, none⟩ = some (.int .i64 a1_0) ∧ w'.cell? ⟨zb, 1, none⟩ = some (.int .i64 a1_1) ∧ w'.cell? ⟨zb, 2, none⟩ = some (.int .i64 a1_2) ∧ w'.cell? ⟨zb, 3, none⟩ = some (.int .i64 a1_3) ∧ w'.cell? ⟨zb, 4, none⟩ = some (.int .i64 a1_4) ∧ w'.cell? ⟨zb, 5, none⟩ = some (.int .i64 a1_5) ∧ w'.cell? ⟨zb, 6, none⟩ = some (.int .i64 a1_6) ∧ w'.cell? ⟨zb, 7, none⟩ = some (.int .i64 a1_7) ∧ w'.cell? ⟨zb, 8, none⟩ = some (.bool a1_8) ∧ w'.cell? ⟨zb, 9, none⟩ = some (.slice (some ad441) l1_9.length c1_9) ∧ w'.cell? ⟨go21, (a1_0).toNat, none⟩ = some (.int .i64 (rd zd a1_0)) ∧ w'.cell? (ad441.add ((rd zd a1_0)).toNat) = some (.int .i64 (rd l1_9 (rd zd a1_0)))) (ds := [13]) (bm 14 0) (by kernel_rfl) rfl rfl ⟨(blk_cell za.out 0).trans rfl, (blk_cell za.out 1).trans rfl, (blk_cell za.out 2).trans rfl, (blk_cell za.out 3).trans rfl, (blk_cell za.out 4).trans rfl, (blk_cell za.out 5).trans rfl, (blk_cell za.out 6).trans rfl, (blk_cell za.out 7).trans rfl, (blk_cell za.out 8).trans rfl, (blk_cell za.out 9).trans rfl, hx440_0, ((HB.out.cell (World.block_lt_of_cell? w _ hw441_0)).trans hw441_0)⟩ (fun hHeld => ?_); refine with_tabW move_From.tab9 move_From.bits9 (fun HT_ HW_ => ?_)
    generalize wc.drew = w24 at zf zc za HB GG21 HQ26 hf21_0 hx21_0 hx440_0 hx441_0 hHeld ⊢
    refine pP (i := 0) (N := some 54) (bm 14 1) rfl rfl HT_.out ?_
    refine pP (i := 1) (N := some 55) (bm 14 3) rfl rfl HT_.out ?_
    refine pP (i := 3) (N := some 57) (bm 14 11) rfl rfl HT_.out ?_
    refine pP (i := 5) (N := some 59) (bm 14 43) rfl rfl HT_.out ?_
    refine pP (i := 6) (N := some 60) (bm 14 107) rfl rfl HT_.out ?_
    refine pT (i := 2) (N := some 56) (bm 14 111) rfl rfl HT_.out HW_.out hHeld (by rintro w' ⟨s0, s1, s2, s3, s4, s5, s6, s7, s8, s9, s10, s11⟩; go_simp; with_reducible rfl) ?_
    refine pT (i := 4) (N := some 58) (bm 14 127) rfl rfl HT_.out HW_.out hHeld (by rintro w' ⟨s0, s1, s2, s3, s4, s5, s6, s7, s8, s9, s10, s11⟩; go_simp; with_reducible rfl) ?_
    refine pT (i := 7) (N := some 61) (bm 14 255) rfl rfl HT_.out HW_.out hHeld (by rintro w' ⟨s0, s1, s2, s3, s4, s5, s6, s7, s8, s9, s10, s11⟩; go_simp; with_reducible rfl) ?_
    refine pP (i := 8) (N := some 62) (bm 14 511) rfl rfl HT_.out ?_
    refine pT (i := 9) (N := some 63) (bm 14 1023) rfl rfl HT_.out HW_.out hHeld (by rintro w' ⟨s0, s1, s2, s3, s4, s5, s6, s7, s8, s9, s10, s11⟩; go_simp; with_reducible rfl) ?_
    refine pP (i := 10) (N := some 64) (bm 14 2047) rfl rfl HT_.out ?_
    refine pT (i := 11) (N := some 65) (bm 14 4095) rfl rfl HT_.out HW_.out hHeld (by rintro w' ⟨s0, s1, s2, s3, s4, s5, s6, s7, s8, s9, s10, s11⟩; go_simp; with_reducible rfl) ?_
    refine pP (i := 12) (N := some 66) (bm 14 8191) rfl rfl HT_.out ?_
    refine last_ (i := 13) (N := none) (bm 14 16383) rfl rfl (one_of HT_.out (by kernel_rfl)) (by decide) (fun K hK => ?_)
    refine skip_ (w1 := ?_) (by rfl) rfl ?_ ?_
    rotate_left
    ·go_simp
     rfl
    refine hK.out _ _ ?_
    clear hK K
    refine done_ (done_of HT_.out (by kernel_rfl)) ?_
    have p443 : 0 ≤ (0 : Int) := (by omega)
    have q443 : 0 < (l2.length : Int) := of_decide_eq_true pD
    obtain ⟨ad443, A443_0, c443_0, e443, hx443_0, hl443_0, hi443_0⟩ := at_L1 HR2.out 0 p443 q443
    cases e443
    have qi443 : (0 < l2.length) = True := eq_true (by omega)
    (try rw [show ((0 : Int)).toNat = 0 from rfl] at hx443_0)
    (try rw [Addr.add_zero'] at hx443_0)
    have hn443_0 : ad443.block ≠ go21 := Nat.ne_of_lt (Nat.lt_of_lt_of_le (by have := World.block_lt_of_cell? _ _ hx443_0; first | rwa [add_block] at this | exact this) GB21.out)
    replace hx443_0 := (HB.out.cell (World.block_lt_of_cell? w _ hx443_0)).trans hx443_0
    have HR443_0 := aM hi443_0
    have HC443_0 := aM hl443_0
    clear hi443_0 hl443_0
    replace hx443_0 := (cell_far (p := ⟨go21, (a1_0 : Int).toNat, none⟩) (by first | (rw [add_block]; exact hn443_0) | (show (Addr.add _ _).block ≠ _; rw [add_block]; exact hn443_0) | exact hn443_0) (.int .i64 (rd l1_9 (rd zd a1_0)))).trans hx443_0
    clear hn443_0
    replace p443 := eq_true p443
    replace q443 := eq_true q443
    try go_wp2_with (first | ((with_reducible refine gate_callee (f := 20) rfl ?_); refine goesL_ (some 97) rfl rfl Try.func20 (by kernel_rfl) rfl #[.slice A443_0 (rd_L1 l2 0).length c443_0, .slice (some ⟨go21, 0, none⟩) zt.length z3] rfl (by (try simp only [List.map_toArray, List.map_cons, List.map_nil]); first | done | (rw [show zt.length = zd.length from (Kd.R_reads' HQ26.out).1.symm] <;> rfl) | rfl | (simp only [List.length_drop, List.length_take]; rfl)) ?_; (with_reducible refine (walk_Place.calls kj6 _ _ (rd_L1 l2 0) _ _ zt t444 t445 _ ?s1 ?s2 ?s3 ?s4 A23.out).mono ?_); (case s1 => exact Kd.C_below HR443_0.out (qB2 HB GB21 zg)); (case s2 => exact HC443_0.out); (case s3 => refine (Kd.R_reads' (e := 3) (base := w.heap.size) (ok := fun k_ => some k_ ≠ (.slice zo zj.length zp : Value).ownBlock) (n := zd.length) (c := z3) ?_).2.2; exact (pR HQ26.out)); (case s4 => rw [show zt.length = zd.length from (Kd.R_reads' HQ26.out).1.symm]; exact sL zc); rintro e w' ⟨rfl, ⟨nd, rfl⟩⟩; refine ⟨_, rfl, ?_⟩))
    go_ret3
    exact ⟨pE, qB2 HB GB21 zg⟩
   rw [if_neg c16] at H
   have c16b0 : (a0 == 38) = false := beq_eq_false_iff_ne.mpr c16
   have c16b1 : (a0 != 38) = true := bne_iff_ne.mpr c16
   by_cases c27 : a0 = 40
   rotate_left
   ·rw [if_neg c27] at H
    have c27b0 : (a0 == 40) = false := beq_eq_false_iff_ne.mpr c27
    have c27b1 : (a0 != 40) = true := bne_iff_ne.mpr c27
    by_cases c45 : 0 < (l2.length : Int)
    rotate_left
    ·rw [if_neg c45] at H
     exact absurd H (by simp)

    rw [if_pos c45] at H
    have c45b0 : decide (0 < (l2.length : Int)) = true := decide_eq_true c45
    have c45b1 : decide (0 < l2.length) = true := decide_eq_true (by omega)
    clear c45
    replace H := Option.bind_eq_some_iff.mp H
    obtain ⟨⟨t458, t459⟩, z7, H⟩ := H
    try dsimp only at H
    have A46 := aM z7
    clear z7
    simp only [Option.some.injEq, Prod.mk.injEq] at H
    obtain ⟨rfl, rfl, rfl⟩ := H
    try go_wp2
    replace zf := aM (Kd.R_drew zf.out)
    replace zc := aM (Kd.R_drew zc.out)
    replace za := aM (blk_drew za.out)
    replace HB := aM (below_drew1 HB.out)
    have p457 : 0 ≤ (0 : Int) := (by omega)
    have q457 : 0 < (l2.length : Int) := of_decide_eq_true pD
    obtain ⟨ad457, A457_0, c457_0, e457, hx457_0, hl457_0, hi457_0⟩ := at_L1 HR2.out 0 p457 q457
    have hw457_0 := hx457_0
    (try rw [show ((0 : Int)).toNat = 0 from rfl] at hw457_0)
    (try rw [show 0 * 1 = 0 from rfl] at hw457_0)
    (try rw [Addr.add_zero'] at hw457_0)
    cases e457
    have qi457 : (0 < l2.length) = True := eq_true (by omega)
    (try rw [show ((0 : Int)).toNat = 0 from rfl] at hx457_0)
    (try rw [Addr.add_zero'] at hx457_0)
    replace hx457_0 := (HB.out.cell (World.block_lt_of_cell? w _ hx457_0)).trans hx457_0
    have zm := aM hi457_0
    have HC457_0 := aM hl457_0
    clear hi457_0 hl457_0
    replace p457 := eq_true p457
    replace q457 := eq_true q457
    obtain ⟨zw, zx, z8⟩ := Kd.R_slice zc.out
    (first | subst z8 | (injection z8 with f1_ f2_ f3_; have f4_ := f1_.symm; have f5_ := f3_.symm; clear f1_ f2_ f3_; subst f4_; subst f5_))
    refine start_ (n := 12) (S := fun w' => w'.cell? ⟨zb, 0, none⟩ = some (.int .i64 a1_0) ∧ w'.cell? ⟨zb, 1, none⟩ = some (.int .i64 a1_1) ∧ w'.cell? ⟨zb, 2, none⟩ = some (.int .i64 a1_2) ∧ w'.cell? ⟨zb, 3, none⟩ = some (.int .i64 a1_3) ∧ w'.cell? ⟨zb, 4, none⟩ = some (.int .i64 a1_4) ∧ w'.cell? ⟨zb, 5, none⟩ = some (.int .i64 a1_5) ∧ w'.cell? ⟨zb, 6, none⟩ = some (.int .i64 a1_6) ∧ w'.cell? ⟨zb, 7, none⟩ = some (.int .i64 a1_7) ∧ w'.cell? ⟨zb, 8, none⟩ = some (.bool a1_8) ∧ w'.cell? ⟨zb, 9, none⟩ = some (.slice A1_9 l1_9.length c1_9) ∧ w'.cell? ad457 = some (.slice A457_0 (rd_L1 l2 0).length c457_0)) (ds := []) (bm 12 0) (by kernel_rfl) rfl rfl ⟨(blk_cell za.out 0).trans rfl, (blk_cell za.out 1).trans rfl, (blk_cell za.out 2).trans rfl, (blk_cell za.out 3).trans rfl, (blk_cell za.out 4).trans rfl, (blk_cell za.out 5).trans rfl, (blk_cell za.out 6).trans rfl, (blk_cell za.out 7).trans rfl, (blk_cell za.out 8).trans rfl, (blk_cell za.out 9).trans rfl, ((HB.out.cell (World.block_lt_of_cell? w _ hw457_0)).trans hw457_0)⟩ (fun hHeld => ?_); refine with_tabW move_From.tab7 move_From.bits7 (fun HT_ HW_ => ?_)
    generalize wc.drew = w47 at zf zc za HB zm hx457_0 hHeld ⊢
    refine pP (i := 0) (N := some 43) (bm 12 1) rfl rfl HT_.out ?_
    refine pP (i := 2) (N := some 45) (bm 12 5) rfl rfl HT_.out ?_
    refine pP (i := 3) (N := some 46) (bm 12 13) rfl rfl HT_.out ?_
    refine pP (i := 5) (N := some 48) (bm 12 45) rfl rfl HT_.out ?_
    refine pP (i := 6) (N := some 49) (bm 12 109) rfl rfl HT_.out ?_
    refine pP (i := 7) (N := some 50) (bm 12 237) rfl rfl HT_.out ?_
    refine pT (i := 1) (N := some 44) (bm 12 239) rfl rfl HT_.out HW_.out hHeld (by rintro w' ⟨s0, s1, s2, s3, s4, s5, s6, s7, s8, s9, s10⟩; go_simp; with_reducible rfl) ?_
    refine pT (i := 4) (N := some 47) (bm 12 255) rfl rfl HT_.out HW_.out hHeld (by rintro w' ⟨s0, s1, s2, s3, s4, s5, s6, s7, s8, s9, s10⟩; go_simp; with_reducible rfl) ?_
    refine one_ (i := 8) (N := some 51) (bm 12 511) rfl rfl (one_of HT_.out (by kernel_rfl)) (by decide) (fun K hK => ?_)
    refine goes_ Try.func28 (by kernel_rfl) rfl #[.int .i64 a0, .agg #[.int .i64 a1_0, .int .i64 a1_1, .int .i64 a1_2, .int .i64 a1_3, .int .i64 a1_4, .int .i64 a1_5, .int .i64 a1_6, .int .i64 a1_7, .bool a1_8, .slice A1_9 l1_9.length c1_9], .slice A457_0 (rd_L1 l2 0).length c457_0, .slice zo zj.length zp, .slice zw zd.length zx, .int .i64 a3] (by rfl) rfl rfl pA ?_
    with_reducible refine (move_seen.calls kj6 a0 a1_0 a1_1 a1_2 a1_3 a1_4 a1_5 a1_6 a1_7 a1_8 _ _ l1_9 _ _ (rd_L1 l2 0) _ _ zj (fun k_ => some k_ = (.slice zw zd.length zx : Value).ownBlock) (.slice zw zd.length zx) zd a3 t458 t459 w _ ?s1 ?s2 ?s3 ?s4 ?s5 ?s6 ?s7 ?s8 A46.out).mono ?_
    (case s1 => repeat (first | (with_reducible first | exact HB.out | apply below_alloc | apply pw_below_drewN | apply below_drew1 | refine below_set ?_ zg.out) | exact HB.out))
    (case s2 => exact Kd.C_kept_came (Kd.heap_int .i64) zr.out (qB1 HB zg) (fun k_ hs_ => (fun e_ => Kd.R_base zc.out k_ e_.symm) hs_))
    (case s3 => exact zz.out)
    (case s4 => exact Kd.C_kept_came (Kd.heap_int .i64) zm.out (qB1 HB zg) (fun k_ hs_ => (fun e_ => Kd.R_base zc.out k_ e_.symm) hs_))
    (case s5 => exact HC457_0.out)
    (case s6 => exact Kd.C_kept_own (zf.out) (fun k_ hk_ hs_ => (hk_) hs_))
    (case s7 => exact sL zf)
    (case s8 => exact Kd.R_tight rfl zc.out)
    rintro e w49 ⟨rfl, hy0, hb, hkp⟩
    refine ⟨_, rfl, ?_⟩
    replace zf := aM (Kd.R_mono (ok' := fun k_ => some k_ ≠ (.slice zw zd.length zx : Value).ownBlock) (Kd.R_keptB (zf.out) hkp (fun k_ hk_ hs_ => (hk_) hs_)) (fun k_ hk_ => hk_.1))
    replace za := aM (blk_kept (pK za.out) hkp (fun hs_ => (fun e_ => (Kd.R_ne zc.out za.out (by decide)) e_) hs_))
    replace zc := aM (Kd.R_reok rfl hy0 (fun k_ e_ => zc.out.1 k_ e_))
    replace HB := aM (hb)
    (try clear hb)
    (try clear hkp)
    (try clear hy0)
    refine hK.out _ _ ⟨(blk_cell za.out 0).trans rfl, (blk_cell za.out 1).trans rfl, (blk_cell za.out 2).trans rfl, (blk_cell za.out 3).trans rfl, (blk_cell za.out 4).trans rfl, (blk_cell za.out 5).trans rfl, (blk_cell za.out 6).trans rfl, (blk_cell za.out 7).trans rfl, (blk_cell za.out 8).trans rfl, (blk_cell za.out 9).trans rfl, ((HB.out.cell (World.block_lt_of_cell? w _ hw457_0)).trans hw457_0)⟩ (fun hHeld => ?_)
    clear hK K
    refine norm_ (a' := ?_) ?_ ?_
    rotate_left
    ·show Act.put _ (some 51) _ = _
     simp only [Act.put, sP, i64_w, i32_w]
     rfl
    refine pP (i := 9) (N := some 8) (bm 12 1023) rfl rfl HT_.out ?_
    refine pP (i := 10) (N := some 9) (bm 12 2047) rfl rfl HT_.out ?_
    refine pP (i := 11) (N := some 10) (bm 12 4095) rfl rfl HT_.out ?_
    refine done_ (done_of HT_.out (by kernel_rfl)) ?_
    try go_wp2
    go_ret3
    exact ⟨pE, qB1 HB zg⟩
   rw [if_pos c27] at H
   have c27b0 : (a0 == 40) = true := beq_iff_eq.mpr c27
   have c27b1 : (a0 != 40) = false := bne_eq_false_iff_eq.mpr c27
   clear c27
   by_cases c28 : 0 < (l2.length : Int)
   rotate_left
   ·rw [if_neg c28] at H
    exact absurd H (by simp)
   rw [if_pos c28] at H
   have c28b0 : decide (0 < (l2.length : Int)) = true := decide_eq_true c28
   have c28b1 : decide (0 < l2.length) = true := decide_eq_true (by omega)
   clear c28
   by_cases c29 : 0 ≤ a1_0
   rotate_left
   ·rw [if_neg c29] at H
    exact absurd H (by simp)
   rw [if_pos c29] at H
   have c29b0 : decide (0 ≤ a1_0) = true := decide_eq_true c29
   clear c29
   by_cases c30 : a1_0 < ((rd_L1 l2 0).length : Int)
   rotate_left
   ·rw [if_neg c30] at H
    exact absurd H (by simp)
   rw [if_pos c30] at H
   have c30b0 : decide (a1_0 < ((rd_L1 l2 0).length : Int)) = true := decide_eq_true c30
   clear c30
   by_cases c31 : a1_0 < (zd.length : Int)
   rotate_left
   ·rw [if_neg c31] at H
    exact absurd H (by simp)
   rw [if_pos c31] at H
   have c31b0 : decide (a1_0 < (zd.length : Int)) = true := decide_eq_true c31
   clear c31
   by_cases c32 : (rd zd a1_0) ≥ (rd (rd_L1 l2 0) a1_0)
   rotate_left
   ·rw [if_neg c32] at H
    have c32b0 : decide ((rd (rd_L1 l2 0) a1_0) ≤ (rd zd a1_0)) = false := decide_eq_false c32
    clear c32
    replace H := Option.bind_eq_some_iff.mp H
    obtain ⟨⟨t455, t456⟩, z9, H⟩ := H
    try dsimp only at H
    have A41 := aM z9
    clear z9
    simp only [Option.some.injEq, Prod.mk.injEq] at H
    obtain ⟨rfl, rfl, rfl⟩ := H
    try go_wp2
    replace zf := aM (Kd.R_drew zf.out)
    replace zc := aM (Kd.R_drew zc.out)
    replace za := aM (blk_drew za.out)
    replace HB := aM (below_drew1 HB.out)
    have p446 : 0 ≤ (0 : Int) := (by omega)
    have q446 : 0 < (l2.length : Int) := of_decide_eq_true pD
    obtain ⟨ad446, A446_0, c446_0, e446, hx446_0, hl446_0, hi446_0⟩ := at_L1 HR2.out 0 p446 q446
    have hw446_0 := hx446_0
    (try rw [show ((0 : Int)).toNat = 0 from rfl] at hw446_0)
    (try rw [show 0 * 1 = 0 from rfl] at hw446_0)
    (try rw [Addr.add_zero'] at hw446_0)
    cases e446
    have qi446 : (0 < l2.length) = True := eq_true (by omega)
    (try rw [show ((0 : Int)).toNat = 0 from rfl] at hx446_0)
    (try rw [Addr.add_zero'] at hx446_0)
    replace hx446_0 := (HB.out.cell (World.block_lt_of_cell? w _ hx446_0)).trans hx446_0
    have zi := aM hi446_0
    have HC446_0 := aM hl446_0
    clear hi446_0 hl446_0
    replace p446 := eq_true p446
    replace q446 := eq_true q446
    have p447 : 0 ≤ (a1_0 : Int) := of_decide_eq_true pD
    have q447 : a1_0 < ((rd_L1 l2 0).length : Int) := of_decide_eq_true pD
    obtain ⟨ad447, e447, hx447_0⟩ := Kd.at_int zi.out a1_0 p447 q447
    have hw447_0 := hx447_0
    cases e447
    replace hx447_0 := (HB.out.cell (World.block_lt_of_cell? w _ hx447_0)).trans hx447_0
    replace p447 := eq_true p447
    replace q447 := eq_true q447
    refine start_ (n := 8) (S := fun w' => w'.cell? ⟨zb, 0, none⟩ = some (.int .i64 a1_0) ∧ w'.cell? ⟨zb, 1, none⟩ = some (.int .i64 a1_1) ∧ w'.cell? ⟨zb, 2, none⟩ = some (.int .i64 a1_2) ∧ w'.cell? ⟨zb, 3, none⟩ = some (.int .i64 a1_3) ∧ w'.cell? ⟨zb, 4, none⟩ = some (.int .i64 a1_4) ∧ w'.cell? ⟨zb, 5, none⟩ = some (.int .i64 a1_5) ∧ w'.cell? ⟨zb, 6, none⟩ = some (.int .i64 a1_6) ∧ w'.cell? ⟨zb, 7, none⟩ = some (.int .i64 a1_7) ∧ w'.cell? ⟨zb, 8, none⟩ = some (.bool a1_8) ∧ w'.cell? ⟨zb, 9, none⟩ = some (.slice A1_9 l1_9.length c1_9) ∧ w'.cell? ad446 = some (.slice (some ad447) (rd_L1 l2 0).length c446_0) ∧ w'.cell? (ad447.add (a1_0).toNat) = some (.int .i64 (rd (rd_L1 l2 0) a1_0))) (ds := []) (bm 8 0) (by kernel_rfl) rfl rfl ⟨(blk_cell za.out 0).trans rfl, (blk_cell za.out 1).trans rfl, (blk_cell za.out 2).trans rfl, (blk_cell za.out 3).trans rfl, (blk_cell za.out 4).trans rfl, (blk_cell za.out 5).trans rfl, (blk_cell za.out 6).trans rfl, (blk_cell za.out 7).trans rfl, (blk_cell za.out 8).trans rfl, (blk_cell za.out 9).trans rfl, ((HB.out.cell (World.block_lt_of_cell? w _ hw446_0)).trans hw446_0), ((HB.out.cell (World.block_lt_of_cell? w _ hw447_0)).trans hw447_0)⟩ (fun hHeld => ?_); refine with_tabW move_From.tab11 move_From.bits11 (fun HT_ HW_ => ?_)
    generalize wc.drew = w42 at zf zc za HB zi hx446_0 hx447_0 hHeld ⊢
    refine pP (i := 0) (N := some 69) (bm 8 1) rfl rfl HT_.out ?_
    refine pP (i := 1) (N := some 70) (bm 8 3) rfl rfl HT_.out ?_
    refine pP (i := 3) (N := some 72) (bm 8 11) rfl rfl HT_.out ?_
    refine pT (i := 2) (N := some 71) (bm 8 15) rfl rfl HT_.out HW_.out hHeld (by rintro w' ⟨s0, s1, s2, s3, s4, s5, s6, s7, s8, s9, s10, s11⟩; go_simp; with_reducible rfl) ?_
    refine pT (i := 4) (N := some 73) (bm 8 31) rfl rfl HT_.out HW_.out hHeld (by rintro w' ⟨s0, s1, s2, s3, s4, s5, s6, s7, s8, s9, s10, s11⟩; go_simp; with_reducible rfl) ?_
    refine pP (i := 5) (N := some 74) (bm 8 63) rfl rfl HT_.out ?_
    refine pT (i := 6) (N := some 75) (bm 8 127) rfl rfl HT_.out HW_.out hHeld (by rintro w' ⟨s0, s1, s2, s3, s4, s5, s6, s7, s8, s9, s10, s11⟩; go_simp; with_reducible rfl) ?_
    refine pP (i := 7) (N := some 16) (bm 8 255) rfl rfl HT_.out ?_
    refine done_ (done_of HT_.out (by kernel_rfl)) ?_
    obtain ⟨hcz43_0, hcz43_1, hcz43_2, hcz43_3, hcz43_4, hcz43_5, hcz43_6, hcz43_7, hcz43_8, hcz43_9, hfz43_0, hfz43_1, hfz43_2, hfz43_3, hfz43_4, hfz43_5, hfz43_6, hfz43_7, hfz43_8, hfz43_9⟩ := blk10 za.out
    obtain ⟨Ao44, co44, eo44⟩ := Kd.R_slice zc.out
    subst eo44
    have p448 : 0 ≤ (a1_0 : Int) := of_decide_eq_true pD
    have q448 : a1_0 < (zd.length : Int) := of_decide_eq_true pD
    obtain ⟨ad448, e448, hx448_0⟩ := Kd.at_int (Kd.R_reads' zc.out).2.2 a1_0 p448 q448
    cases e448
    replace p448 := eq_true p448
    replace q448 := eq_true q448
    have p454 : 0 ≤ (0 : Int) := (by omega)
    have q454 : 0 < (l2.length : Int) := of_decide_eq_true pD
    obtain ⟨ad454, A454_0, c454_0, e454, hx454_0, hl454_0, hi454_0⟩ := at_L1 HR2.out 0 p454 q454
    obtain rfl : ad446 = ad454 := (by injection e454)
    have qi454 : (0 < l2.length) = True := eq_true (by omega)
    (try rw [show ((0 : Int)).toNat = 0 from rfl] at hx454_0)
    (try rw [Addr.add_zero'] at hx454_0)
    replace hx454_0 := (HB.out.cell (World.block_lt_of_cell? w _ hx454_0)).trans hx454_0
    have HR454_0 := aM hi454_0
    have HC454_0 := aM hl454_0
    clear hi454_0 hl454_0
    replace p454 := eq_true p454
    replace q454 := eq_true q454
    have ea_ := Option.some.inj (hx446_0.symm.trans hx454_0)
    injection ea_ with ea_ en_ ec_
    subst ea_
    subst ec_
    clear en_
    try go_wp2_with (first | ((with_reducible refine gate_callee (f := 20) rfl ?_); refine goesL_ (some 97) rfl rfl Try.func20 (by kernel_rfl) rfl #[.slice (some ad447) (rd_L1 l2 0).length c446_0, .slice (some ad448) zd.length co44] rfl pA ?_; (with_reducible refine (walk_Place.calls kj6 _ _ (rd_L1 l2 0) _ _ zd t455 t456 _ ?s1 ?s2 ?s3 ?s4 A41.out).mono ?_); (case s1 => exact sC HR454_0 HB); (case s2 => exact HC454_0.out); (case s3 => exact sR zc); (case s4 => exact sL zc); rintro e w' ⟨rfl, ⟨nd, rfl⟩⟩; refine ⟨_, rfl, ?_⟩))
    go_ret3
    exact ⟨pE, qB1 HB zg⟩
   rw [if_pos c32] at H
   have c32b0 : decide ((rd (rd_L1 l2 0) a1_0) ≤ (rd zd a1_0)) = true := decide_eq_true c32
   clear c32
   obtain ⟨zq, zv⟩ : ∃ y_ : List Int, y_ = (zd.set (a1_0 : Int).toNat (wrap64 ((rd zd a1_0) - (rd (rd_L1 l2 0) a1_0)))) := ⟨_, rfl⟩
   replace H : (if 1 < (l2.length : Int) then ((walk_Place.f kj6 (rd_L1 l2 1) zq).bind fun bt452 => (some (1, bt452.1, true))) else (none)) = some (r1, r2, r3) := pH zv H
   have Ny450 := aM zv
   clear zv
   by_cases c34 : 1 < (l2.length : Int)
   rotate_left
   ·rw [if_neg c34] at H
    exact absurd H (by simp)
   rw [if_pos c34] at H
   have c34b0 : decide (1 < (l2.length : Int)) = true := decide_eq_true c34
   have c34b1 : decide (1 < l2.length) = true := decide_eq_true (by omega)
   clear c34
   replace H := Option.bind_eq_some_iff.mp H
   obtain ⟨⟨t452, t453⟩, zaa, H⟩ := H
   try dsimp only at H
   have A35 := aM zaa
   clear zaa
   simp only [Option.some.injEq, Prod.mk.injEq] at H
   obtain ⟨rfl, rfl, rfl⟩ := H
   try go_wp2
   replace zf := aM (Kd.R_drew zf.out)
   replace zc := aM (Kd.R_drew zc.out)
   replace za := aM (blk_drew za.out)
   replace HB := aM (below_drew1 HB.out)
   have p446 : 0 ≤ (0 : Int) := (by omega)
   have q446 : 0 < (l2.length : Int) := of_decide_eq_true pD
   obtain ⟨ad446, A446_0, c446_0, e446, hx446_0, hl446_0, hi446_0⟩ := at_L1 HR2.out 0 p446 q446
   have hw446_0 := hx446_0
   (try rw [show ((0 : Int)).toNat = 0 from rfl] at hw446_0)
   (try rw [show 0 * 1 = 0 from rfl] at hw446_0)
   (try rw [Addr.add_zero'] at hw446_0)
   cases e446
   have qi446 : (0 < l2.length) = True := eq_true (by omega)
   (try rw [show ((0 : Int)).toNat = 0 from rfl] at hx446_0)
   (try rw [Addr.add_zero'] at hx446_0)
   replace hx446_0 := (HB.out.cell (World.block_lt_of_cell? w _ hx446_0)).trans hx446_0
   have zi := aM hi446_0
   have HC446_0 := aM hl446_0
   clear hi446_0 hl446_0
   replace p446 := eq_true p446
   replace q446 := eq_true q446
   have p447 : 0 ≤ (a1_0 : Int) := of_decide_eq_true pD
   have q447 : a1_0 < ((rd_L1 l2 0).length : Int) := of_decide_eq_true pD
   obtain ⟨ad447, e447, hx447_0⟩ := Kd.at_int zi.out a1_0 p447 q447
   have hw447_0 := hx447_0
   cases e447
   replace hx447_0 := (HB.out.cell (World.block_lt_of_cell? w _ hx447_0)).trans hx447_0
   replace p447 := eq_true p447
   replace q447 := eq_true q447
   refine start_ (n := 8) (S := fun w' => w'.cell? ⟨zb, 0, none⟩ = some (.int .i64 a1_0) ∧ w'.cell? ⟨zb, 1, none⟩ = some (.int .i64 a1_1) ∧ w'.cell? ⟨zb, 2, none⟩ = some (.int .i64 a1_2) ∧ w'.cell? ⟨zb, 3, none⟩ = some (.int .i64 a1_3) ∧ w'.cell? ⟨zb, 4, none⟩ = some (.int .i64 a1_4) ∧ w'.cell? ⟨zb, 5, none⟩ = some (.int .i64 a1_5) ∧ w'.cell? ⟨zb, 6, none⟩ = some (.int .i64 a1_6) ∧ w'.cell? ⟨zb, 7, none⟩ = some (.int .i64 a1_7) ∧ w'.cell? ⟨zb, 8, none⟩ = some (.bool a1_8) ∧ w'.cell? ⟨zb, 9, none⟩ = some (.slice A1_9 l1_9.length c1_9) ∧ w'.cell? ad446 = some (.slice (some ad447) (rd_L1 l2 0).length c446_0) ∧ w'.cell? (ad447.add (a1_0).toNat) = some (.int .i64 (rd (rd_L1 l2 0) a1_0))) (ds := []) (bm 8 0) (by kernel_rfl) rfl rfl ⟨(blk_cell za.out 0).trans rfl, (blk_cell za.out 1).trans rfl, (blk_cell za.out 2).trans rfl, (blk_cell za.out 3).trans rfl, (blk_cell za.out 4).trans rfl, (blk_cell za.out 5).trans rfl, (blk_cell za.out 6).trans rfl, (blk_cell za.out 7).trans rfl, (blk_cell za.out 8).trans rfl, (blk_cell za.out 9).trans rfl, ((HB.out.cell (World.block_lt_of_cell? w _ hw446_0)).trans hw446_0), ((HB.out.cell (World.block_lt_of_cell? w _ hw447_0)).trans hw447_0)⟩ (fun hHeld => ?_); refine with_tabW move_From.tab11 move_From.bits11 (fun HT_ HW_ => ?_)
   generalize wc.drew = w36 at zf zc za HB zi hx446_0 hx447_0 hHeld ⊢
   refine pP (i := 0) (N := some 69) (bm 8 1) rfl rfl HT_.out ?_
   refine pP (i := 1) (N := some 70) (bm 8 3) rfl rfl HT_.out ?_
   refine pP (i := 3) (N := some 72) (bm 8 11) rfl rfl HT_.out ?_
   refine pT (i := 2) (N := some 71) (bm 8 15) rfl rfl HT_.out HW_.out hHeld (by rintro w' ⟨s0, s1, s2, s3, s4, s5, s6, s7, s8, s9, s10, s11⟩; go_simp; with_reducible rfl) ?_
   refine pT (i := 4) (N := some 73) (bm 8 31) rfl rfl HT_.out HW_.out hHeld (by rintro w' ⟨s0, s1, s2, s3, s4, s5, s6, s7, s8, s9, s10, s11⟩; go_simp; with_reducible rfl) ?_
   refine pP (i := 5) (N := some 74) (bm 8 63) rfl rfl HT_.out ?_
   refine pT (i := 6) (N := some 75) (bm 8 127) rfl rfl HT_.out HW_.out hHeld (by rintro w' ⟨s0, s1, s2, s3, s4, s5, s6, s7, s8, s9, s10, s11⟩; go_simp; with_reducible rfl) ?_
   refine pP (i := 7) (N := some 16) (bm 8 255) rfl rfl HT_.out ?_
   refine done_ (done_of HT_.out (by kernel_rfl)) ?_
   obtain ⟨hcz37_0, hcz37_1, hcz37_2, hcz37_3, hcz37_4, hcz37_5, hcz37_6, hcz37_7, hcz37_8, hcz37_9, hfz37_0, hfz37_1, hfz37_2, hfz37_3, hfz37_4, hfz37_5, hfz37_6, hfz37_7, hfz37_8, hfz37_9⟩ := blk10 za.out
   obtain ⟨Ao38, zy, eo38⟩ := Kd.R_slice zc.out
   subst eo38
   have p448 : 0 ≤ (a1_0 : Int) := of_decide_eq_true pD
   have q448 : a1_0 < (zd.length : Int) := of_decide_eq_true pD
   obtain ⟨ad448, e448, hx448_0⟩ := Kd.at_int (Kd.R_reads' zc.out).2.2 a1_0 p448 q448
   cases e448
   replace p448 := eq_true p448
   replace q448 := eq_true q448
   have p449 : 0 ≤ (a1_0 : Int) := of_decide_eq_true pD
   have q449 : a1_0 < (zd.length : Int) := of_decide_eq_true pD
   obtain ⟨ad449, e449, hx449_0⟩ := Kd.at_int (Kd.R_reads' zc.out).2.2 a1_0 p449 q449
   obtain rfl : ad448 = ad449 := (by injection e449)
   replace p449 := eq_true p449
   replace q449 := eq_true q449
   have p33 : 0 ≤ (a1_0 : Int) := of_decide_eq_true pD
   have q33 : (a1_0 : Int) < ((zd.length : Int) : Int) := of_decide_eq_true pD
   obtain ⟨go33, co33, zab, zac, gl33, cl33, HG33⟩ := Kd.R_form zc.out (by omega)
   (first | cases zab | (injection zab with ea_ en_ ec_; (first | subst ea_ | (injection ea_ with ea_; subst ea_)); subst ec_; clear en_))
   have GB33 := aM zac
   have GG33 := aM HG33
   clear zac gl33 HG33
   (first | simp only [add_plain] at hx448_0 | skip)
   (first | simp only [add_plain] at hx449_0 | skip)
   obtain ⟨hx33_0, hf33_0⟩ := Kd.R_celln 0 zc.out (a1_0 : Int) p33 q33
   replace p33 := eq_true p33
   replace q33 := eq_true q33
   obtain ⟨hy39_, hz39_⟩ := Kd.R_celln 0 zc.out (a1_0 : Int) (of_decide_eq_true pD) (of_decide_eq_true pD)
   have HP39 := Kd.R_putg zc.out (a1_0 : Int) (wrap64 ((rd zd a1_0) - (rd (rd_L1 l2 0) a1_0)))
   try go_wp2_with (first | ((with_reducible refine gate_store (t := 3) (p := 90) rfl ?_); refine store_event (t := 3) (p := 90) (v := ?vo_w40) (w1 := (w36.setCell ⟨go33, (a1_0 : Int).toNat, none⟩ (.int .i64 (wrap64 ((rd zd a1_0) - (rd (rd_L1 l2 0) a1_0)))))) ?hg ?ho ?hn ?hr ?_; (case ho => rfl); (case hg => rfl); (case hn => rfl); (case hr => first | (go_simp; done) | (go_simp; rfl)); intro w40 hw; have hg : w36.grownBy w40 (some go33) := (by rw [hw]; exact HP39.2); have hp_ : Kd.R (Kd.int .i64) 3 w40 w.heap.size (fun k_ => some k_ ≠ (.slice zo zj.length zp : Value).ownBlock) (.slice (some ⟨go33, 0, none⟩) zd.length zy) zq := (by rw [hw, Ny450.out]; exact HP39.1); clear HP39; replace zf := aM (Kd.R_after (v := (.slice (some ⟨go33, 0, none⟩) zd.length zy)) (v1 := (.slice (some ⟨go33, 0, none⟩) zd.length zy)) (ok := (fun _ => True)) (by (with_reducible repeat (first | apply rA | apply rN | apply rD)); exact Kd.R_mono zf.out (fun _ hk => ⟨trivial, hk⟩)) hg (.inl rfl)); replace za := aM (blk_grown (g := zb) (pK za.out) hg (Kd.R_ne zc.out za.out (by decide))); replace zc := aM (hp_); replace HB := aM ((by rw [hw]; exact below_set (HB.out) GB33.out : Below w.heap.size w w40)); clear hg hw hp_; have p451 : 0 ≤ (1 : Int) := (by omega); have q451 : 1 < (l2.length : Int) := of_decide_eq_true pD; obtain ⟨ad451, A451_0, c451_0, e451, hx451_0, hl451_0, hi451_0⟩ := at_L1 HR2.out 1 p451 q451; obtain rfl : ad446 = ad451 := (by injection e451); (try simp only [show (1 : Int).toNat = 1 from rfl, Nat.reduceMul, Nat.reduceEqDiff, Go.Addr.add, ↓reduceIte] at hx451_0); have qi451 : (1 < l2.length) = True := eq_true (by omega); (try rw [show ((1 : Int)).toNat = 1 from rfl] at hx451_0); replace hx451_0 := (HB.out.cell (World.block_lt_of_cell? w _ hx451_0)).trans hx451_0; have HR451_0 := aM hi451_0; have HC451_0 := aM hl451_0; clear hi451_0 hl451_0; replace p451 := eq_true p451; replace q451 := eq_true q451) | ((with_reducible refine gate_callee (f := 20) rfl ?_); refine goesL_ (some 97) rfl rfl Try.func20 (by kernel_rfl) rfl #[.slice A451_0 (rd_L1 l2 1).length c451_0, .slice (some ⟨go33, 0, none⟩) zq.length zy] rfl (by (try simp only [List.map_toArray, List.map_cons, List.map_nil]); first | done | (rw [show zq.length = zd.length from (Kd.R_reads' zc.out).1.symm] <;> rfl) | rfl | (simp only [List.length_drop, List.length_take]; rfl)) ?_; (with_reducible refine (walk_Place.calls kj6 _ _ (rd_L1 l2 1) _ _ zq t452 t453 _ ?s1 ?s2 ?s3 ?s4 A35.out).mono ?_); (case s1 => exact sC HR451_0 HB); (case s2 => exact HC451_0.out); (case s3 => exact sR zc); (case s4 => rw [show zq.length = zd.length from (Kd.R_reads' zc.out).1.symm]; exact sL zc); rintro e w' ⟨rfl, ⟨nd, rfl⟩⟩; refine ⟨_, rfl, ?_⟩))
   go_ret3
   exact ⟨pE, qB1 HB zg⟩
end Go.Proofs.Yticcamciaohepaa.Q
