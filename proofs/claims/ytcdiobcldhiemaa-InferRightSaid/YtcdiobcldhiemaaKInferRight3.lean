/- Texts of the proof of InferRight, part 3: what functions of the program compute, and that they compute it. -/
import Derived.Test.YtcdiobcldhiemaaWordsMore
import Derived.Deep.Slices
import Derived.Test.YtcdiobcldhiemaaKInferRight2
namespace Go.Proofs.Ytcdiobcldhiemaa.Q
open Go.RowKit Go.Proofs.YtcdiobcldhiemaaW.PrintWords Go.Proofs.YtcdiobcldhiemaaW.PrintLast Go.Proofs.YtcdiobcldhiemaaW.PrintMore
attribute [local go_sem] max2_int min2_int max_two min_two max_three min_three max_four min_four   -- for this text's walks alone
set_option linter.unusedVariables false
set_option linter.unusedSimpArgs false
mutual
def gradineref19_Check.l0 : Nat → List Int → Int → Int → Option (Int)
 | 0, _, _, _ => none
 | k + 1, x0, x10, x11 => if x11 < x10 then (if 0 ≤ x11 then (if x11 < (x0.length : Int) then (if (rd x0 x11) < 1 then (some 8) else (gradineref19_Check.l0 k x0 x10 (wrap64 (x11 + 1)))) else (none)) else (none)) else (gradineref19_Check.l1 k x0 1 (x0.length : Int) 0)
def gradineref19_Check.l1 : Nat → List Int → Int → Int → Int → Option (Int)
 | 0, _, _, _, _ => none
 | k + 1, x0, x4, x21, x22 => if x22 < x21 then (if 0 ≤ x22 then (if x22 < (x0.length : Int) then (if (rd x0 x22) > 64 then (some 12) else (if (wrap64 (x4 * (rd x0 x22))) > 64 then (some 12) else (gradineref19_Check.l1 k x0 (wrap64 (x4 * (rd x0 x22))) x21 (wrap64 (x22 + 1))))) else (none)) else (none)) else (some 0)
end
def gradineref19_Check.f (k : Nat) (l0 : List Int) : Option (Int) := if (l0.length : Int) > 6 then (some 9) else (gradineref19_Check.l0 k l0 (l0.length : Int) 0)
set_option maxHeartbeats 8000000 in
set_option maxRecDepth 100000 in
theorem gradineref19_Check.calls (k : Nat) (A0 : Option Addr) (c0 : Nat) (l0 : List Int) (r : Int) (w : World) (hr0 : Kd.C (Kd.int .i64) w A0 l0.length l0) (hc0 : l0.length ≤ c0) (h : gradineref19_Check.f k l0 = some r) :
  Calls Try.prog 30 #[.slice A0 l0.length c0] w fun e w' => e = .returned (.int .i64 r) ∧ Drawn0 w w' := by
 have HR0 := aM hr0
 have HC0 := aM hc0
 clear hr0 hc0
 have H : (if (l0.length : Int) > 6 then (some 9) else (gradineref19_Check.l0 k l0 (l0.length : Int) 0)) = some r := h
 clear h
 by_cases c2 : (l0.length : Int) > 6
 ·rw [if_pos c2] at H
  have za : decide (6 < (l0.length : Int)) = true := decide_eq_true c2
  have zb : decide (6 < l0.length) = true := decide_eq_true (by omega)
  clear c2
  obtain rfl := Option.some.inj H
  go_enter Try.func30, Try.ntmps30
  go_wp2
  go_ret
  exact ⟨pF, by repeat (first | exact Drawn0.refl _ | apply Drawn0.step)⟩
 rw [if_neg c2] at H
 have za : decide (6 < (l0.length : Int)) = false := decide_eq_false c2
 have zb : decide (6 < l0.length) = false := decide_eq_false (by omega)
 clear c2
 have H' := aM H
 clear H
 go_enter Try.func30, Try.ntmps30
 go_wp2
 go_loopg [11] k (fun kq v11 w' => ∃ (x11_1 : Int), v11 = .int .i64 x11_1 ∧ Aside0 (gradineref19_Check.l0 kq l0 (l0.length : Int) x11_1 = some r) ∧ Aside0 (kq ≤ k) ∧ Drawn0 w w')
 case atStart => exact ⟨(0), (pF), H', ⟨Nat.le_refl _⟩, by repeat (first | exact Drawn0.refl _ | apply Drawn0.step)⟩
 case round =>
  clear H'
  try clear za
  try clear zb
  obtain ⟨x11_1, rfl, HA, HK1, ⟨m1, rfl⟩⟩ := hrel
  cases gk with
  | zero => exact absurd HA.out (by simp [gradineref19_Check.l0])
  | succ k1 =>
   have H := HA.out
   clear HA
   simp only [gradineref19_Check.l0] at H
   by_cases c3 : x11_1 < (l0.length : Int)
   ·rw [if_pos c3] at H
    have zc : decide (x11_1 < (l0.length : Int)) = true := decide_eq_true c3
    clear c3
    by_cases c4 : 0 ≤ x11_1
    rotate_left
    ·rw [if_neg c4] at H
     exact absurd H (by simp)
    rw [if_pos c4] at H
    have c4b0 : decide (0 ≤ x11_1) = true := decide_eq_true c4
    clear c4
    by_cases c5 : x11_1 < (l0.length : Int)
    rotate_left
    ·rw [if_neg c5] at H
     exact absurd H (by simp)
    rw [if_pos c5] at H
    have c5b0 : decide (x11_1 < (l0.length : Int)) = true := decide_eq_true c5
    clear c5
    by_cases c6 : (rd l0 x11_1) < 1
    ·rw [if_pos c6] at H
     have c6b0 : decide ((rd l0 x11_1) < 1) = true := decide_eq_true c6
     clear c6
     obtain rfl := Option.some.inj H
     have p483 : 0 ≤ (x11_1 : Int) := of_decide_eq_true pD
     have q483 : x11_1 < (l0.length : Int) := of_decide_eq_true pD
     obtain ⟨ad483, e483, hx483_0⟩ := Kd.at_int HR0.out x11_1 p483 q483
     cases e483
     replace p483 := eq_true p483
     replace q483 := eq_true q483
     go_wp2
     go_ret
     exact ⟨pF, by repeat (first | exact Drawn0.refl _ | apply Drawn0.step)⟩
    rw [if_neg c6] at H
    have c6b0 : decide ((rd l0 x11_1) < 1) = false := decide_eq_false c6
    clear c6
    have H' := aM H
    clear H
    have p483 : 0 ≤ (x11_1 : Int) := of_decide_eq_true pD
    have q483 : x11_1 < (l0.length : Int) := of_decide_eq_true pD
    obtain ⟨ad483, e483, hx483_0⟩ := Kd.at_int HR0.out x11_1 p483 q483
    cases e483
    replace p483 := eq_true p483
    replace q483 := eq_true q483
    go_wp2
    go_roundg k1
    case measure => have := HK1.out; omega
    case rel => exact ⟨(wrap64 (x11_1 + 1)), (pF), H', ⟨by have := HK1.out; omega⟩, by repeat (first | exact Drawn0.refl _ | apply Drawn0.step)⟩
   rw [if_neg c3] at H
   have zc : decide (x11_1 < (l0.length : Int)) = false := decide_eq_false c3
   clear c3
   have H' := aM H
   clear H
   go_wp2
   go_loopg [4, 22] k1 (fun kq v4 v22 w' => ∃ (x4_2 : Int) (x22_2 : Int), v4 = .int .i64 x4_2 ∧ v22 = .int .i64 x22_2 ∧ Aside0 (gradineref19_Check.l1 kq l0 x4_2 (l0.length : Int) x22_2 = some r) ∧ Aside0 (kq ≤ k1) ∧ Drawn0 w w')
   case atStart => exact ⟨(1), (0), (pF), (pF), H', ⟨Nat.le_refl _⟩, by repeat (first | exact Drawn0.refl _ | apply Drawn0.step)⟩
   case round =>
    clear H'
    try clear zc
    obtain ⟨x4_2, x22_2, rfl, rfl, HA, HK2, ⟨m2, rfl⟩⟩ := hrel
    cases gk with
    | zero => exact absurd HA.out (by simp [gradineref19_Check.l1])
    | succ k2 =>
     have H := HA.out
     clear HA
     simp only [gradineref19_Check.l1] at H
     by_cases c7 : x22_2 < (l0.length : Int)
     rotate_left
     ·rw [if_neg c7] at H
      have c7b0 : decide (x22_2 < (l0.length : Int)) = false := decide_eq_false c7
      clear c7
      obtain rfl := Option.some.inj H
      go_wp2
      go_ret
      exact ⟨pF, by repeat (first | exact Drawn0.refl _ | apply Drawn0.step)⟩
     rw [if_pos c7] at H
     have c7b0 : decide (x22_2 < (l0.length : Int)) = true := decide_eq_true c7
     clear c7
     by_cases c8 : 0 ≤ x22_2
     rotate_left
     ·rw [if_neg c8] at H
      exact absurd H (by simp)
     rw [if_pos c8] at H
     have c8b0 : decide (0 ≤ x22_2) = true := decide_eq_true c8
     clear c8
     by_cases c9 : x22_2 < (l0.length : Int)
     rotate_left
     ·rw [if_neg c9] at H
      exact absurd H (by simp)
     rw [if_pos c9] at H
     have c9b0 : decide (x22_2 < (l0.length : Int)) = true := decide_eq_true c9
     clear c9
     by_cases c10 : (rd l0 x22_2) > 64
     ·rw [if_pos c10] at H
      have c10b0 : decide (64 < (rd l0 x22_2)) = true := decide_eq_true c10
      clear c10
      obtain rfl := Option.some.inj H
      have p484 : 0 ≤ (x22_2 : Int) := of_decide_eq_true pD
      have q484 : x22_2 < (l0.length : Int) := of_decide_eq_true pD
      obtain ⟨ad484, e484, hx484_0⟩ := Kd.at_int HR0.out x22_2 p484 q484
      cases e484
      replace p484 := eq_true p484
      replace q484 := eq_true q484
      go_wp2
      go_ret
      exact ⟨pF, by repeat (first | exact Drawn0.refl _ | apply Drawn0.step)⟩
     rw [if_neg c10] at H
     have c10b0 : decide (64 < (rd l0 x22_2)) = false := decide_eq_false c10
     clear c10
     by_cases c11 : (wrap64 (x4_2 * (rd l0 x22_2))) > 64
     ·rw [if_pos c11] at H
      have c11b0 : decide (64 < (wrap64 (x4_2 * (rd l0 x22_2)))) = true := decide_eq_true c11
      clear c11
      obtain rfl := Option.some.inj H
      have p484 : 0 ≤ (x22_2 : Int) := of_decide_eq_true pD
      have q484 : x22_2 < (l0.length : Int) := of_decide_eq_true pD
      obtain ⟨ad484, e484, hx484_0⟩ := Kd.at_int HR0.out x22_2 p484 q484
      cases e484
      replace p484 := eq_true p484
      replace q484 := eq_true q484
      have p485 : 0 ≤ (x22_2 : Int) := of_decide_eq_true pD
      have q485 : x22_2 < (l0.length : Int) := of_decide_eq_true pD
      obtain ⟨ad485, e485, hx485_0⟩ := Kd.at_int HR0.out x22_2 p485 q485
      obtain rfl : ad484 = ad485 := (by injection e485)
      replace p485 := eq_true p485
      replace q485 := eq_true q485
      go_wp2
      go_ret
      exact ⟨pF, by repeat (first | exact Drawn0.refl _ | apply Drawn0.step)⟩
     rw [if_neg c11] at H
     have c11b0 : decide (64 < (wrap64 (x4_2 * (rd l0 x22_2)))) = false := decide_eq_false c11
     clear c11
     have H' := aM H
     clear H
     have p484 : 0 ≤ (x22_2 : Int) := of_decide_eq_true pD
     have q484 : x22_2 < (l0.length : Int) := of_decide_eq_true pD
     obtain ⟨ad484, e484, hx484_0⟩ := Kd.at_int HR0.out x22_2 p484 q484
     cases e484
     replace p484 := eq_true p484
     replace q484 := eq_true q484
     have p485 : 0 ≤ (x22_2 : Int) := of_decide_eq_true pD
     have q485 : x22_2 < (l0.length : Int) := of_decide_eq_true pD
     obtain ⟨ad485, e485, hx485_0⟩ := Kd.at_int HR0.out x22_2 p485 q485
     obtain rfl : ad484 = ad485 := (by injection e485)
     replace p485 := eq_true p485
     replace q485 := eq_true q485
     have p486 : 0 ≤ (x22_2 : Int) := of_decide_eq_true pD
     have q486 : x22_2 < (l0.length : Int) := of_decide_eq_true pD
     obtain ⟨ad486, e486, hx486_0⟩ := Kd.at_int HR0.out x22_2 p486 q486
     obtain rfl : ad484 = ad486 := (by injection e486)
     replace p486 := eq_true p486
     replace q486 := eq_true q486
     go_wp2
     go_roundg k2
     case measure => have := HK1.out; have := HK2.out; omega
     case rel => exact ⟨(wrap64 (x4_2 * (rd l0 x22_2))), (wrap64 (x22_2 + 1)), (pF), (pF), H', ⟨by have := HK1.out; have := HK2.out; omega⟩, by repeat (first | exact Drawn0.refl _ | apply Drawn0.step)⟩
def gradinelaw31_InferRight.f (k : Nat) (a0 : Int) (a1_0 : Int) (a1_1 : Int) (a1_2 : Int) (a1_3 : Int) (a1_4 : Int) (a1_5 : Int) (a1_6 : Int) (a1_7 : Int) (a1_8 : Bool) (l1_9 : List Int) (l2 : List (List Int)) : Option (Bool) := (gradinelaw31_Many.f k a1_0 a1_1 a1_2 a1_3 a1_4 a1_5 a1_6 a1_7 a1_8 l1_9 l2).bind fun zh => (if zh = true then ((gradinelaw31_same.f).bind fun zi => (some zi)) else ((infer_Dims.f k a0 a1_0 a1_1 a1_2 a1_3 a1_4 a1_5 a1_6 a1_7 a1_8 l1_9 l2).bind fun bt1130 => (if bt1130.2 = 0 then ((gradineref19_Check.f k bt1130.1).bind fun zd => (if zd = 0 then ((gradinelaw31_same.f).bind fun zj => (some zj)) else (some false))) else (if (bt1130.1.length : Int) = 0 then ((gradinelaw31_same.f).bind fun zk => (some zk)) else (some false)))))
set_option maxHeartbeats 8000000 in
set_option maxRecDepth 100000 in
theorem gradinelaw31_InferRight.calls (k : Nat) (a0 : Int) (a1_0 : Int) (a1_1 : Int) (a1_2 : Int) (a1_3 : Int) (a1_4 : Int) (a1_5 : Int) (a1_6 : Int) (a1_7 : Int) (a1_8 : Bool) (A1_9 : Option Addr) (c1_9 : Nat) (l1_9 : List Int) (A2 : Option Addr) (c2 : Nat) (l2 : List (List Int)) (w : World) (hr1_9 : Kd.C (Kd.int .i64) w A1_9 l1_9.length l1_9) (hc1_9 : l1_9.length ≤ c1_9) (hr2 : Kd.C (Kd.slice 3 (Kd.int .i64)) w A2 l2.length l2) (hc2 : l2.length ≤ c2) (h : gradinelaw31_InferRight.f k a0 a1_0 a1_1 a1_2 a1_3 a1_4 a1_5 a1_6 a1_7 a1_8 l1_9 l2 = some true) :
  Calls Try.prog 7 #[.int .i64 a0, .agg #[.int .i64 a1_0, .int .i64 a1_1, .int .i64 a1_2, .int .i64 a1_3, .int .i64 a1_4, .int .i64 a1_5, .int .i64 a1_6, .int .i64 a1_7, .bool a1_8, .slice A1_9 l1_9.length c1_9], .slice A2 l2.length c2] w fun e w' => e = .returned (.bool true) ∧ Below w.heap.size w w' := by
 have hu24 := Try.underlying24
 have zl := aM hr1_9
 have zm := aM hc1_9
 clear hr1_9 hc1_9
 have HR2 := aM hr2
 have HC2 := aM hc2
 clear hr2 hc2
 have HB := aM (Below.refl w.heap.size w)
 have H : ((gradinelaw31_Many.f k a1_0 a1_1 a1_2 a1_3 a1_4 a1_5 a1_6 a1_7 a1_8 l1_9 l2).bind fun zh => (if zh = true then ((gradinelaw31_same.f).bind fun zi => (some zi)) else ((infer_Dims.f k a0 a1_0 a1_1 a1_2 a1_3 a1_4 a1_5 a1_6 a1_7 a1_8 l1_9 l2).bind fun bt1130 => (if bt1130.2 = 0 then ((gradineref19_Check.f k bt1130.1).bind fun zd => (if zd = 0 then ((gradinelaw31_same.f).bind fun zj => (some zj)) else (some false))) else (if (bt1130.1.length : Int) = 0 then ((gradinelaw31_same.f).bind fun zk => (some zk)) else (some false)))))) = some true := h
 clear h
 replace H := Option.bind_eq_some_iff.mp H
 obtain ⟨zh, A40, H⟩ := H
 try dsimp only at H
 have A4 := aM A40
 clear A40
 by_cases c5 : zh = true
 ·subst c5
  rw [if_pos rfl] at H
  replace H := Option.bind_eq_some_iff.mp H
  obtain ⟨zi, A60, H⟩ := H
  try dsimp only at H
  have A6 := aM A60
  clear A60
  have hv_ := aM (Option.some.inj H)
  clear H
  go_enter Try.func7, Try.ntmps7
  go_wp2_with (first | ((with_reducible refine gate_dst (N := 4) rfl ?_); (try (refine gate_guard (by rfl) ?_; dsimp only)); refine box_event ?hg (N := 4) ?hd (cs := #[.int .i64 a1_0, .int .i64 a1_1, .int .i64 a1_2, .int .i64 a1_3, .int .i64 a1_4, .int .i64 a1_5, .int .i64 a1_6, .int .i64 a1_7, .bool a1_8, .slice A1_9 l1_9.length c1_9]) (t := 24) ?hr ?_; (case hd => rfl); (case hg => rfl); (case hr => first | (go_simp; done) | (go_simp; rfl)); intro zn hg w7 hbox hb; have za := aM (hbox); have zf := gE (w := w) hg (qB HB); have zb := zf; replace HB := bS (qB HB) hb; clear hb hbox hg; obtain ⟨hcz8_0, hcz8_1, hcz8_2, hcz8_3, hcz8_4, hcz8_5, hcz8_6, hcz8_7, hcz8_8, hcz8_9, hfz8_0, hfz8_1, hfz8_2, hfz8_3, hfz8_4, hfz8_5, hfz8_6, hfz8_7, hfz8_8, hfz8_9⟩ := blk10 za.out) | ((with_reducible refine gate_callee (f := 22) rfl ?_); refine goesL_ (some 11) rfl rfl Try.func22 (by kernel_rfl) rfl #[.agg #[.int .i64 a1_0, .int .i64 a1_1, .int .i64 a1_2, .int .i64 a1_3, .int .i64 a1_4, .int .i64 a1_5, .int .i64 a1_6, .int .i64 a1_7, .bool a1_8, .slice A1_9 l1_9.length c1_9], .slice A2 l2.length c2] rfl pA ?_; (with_reducible refine (gradinelaw31_Many.calls k a1_0 a1_1 a1_2 a1_3 a1_4 a1_5 a1_6 a1_7 a1_8 _ _ l1_9 _ _ l2 true _ ?s1 ?s2 ?s3 ?s4 A4.out).mono ?_); (case s1 => exact sC zl HB); (case s2 => exact zm.out); (case s3 => exact sC HR2 HB); (case s4 => exact HC2.out); rintro e w9 ⟨rfl, hb⟩; refine ⟨_, rfl, ?_⟩; replace za := bK za hb; replace HB := bS (qB1 HB zb) hb; (try clear hb); (try clear hk); (try clear hi)) | ((with_reducible refine gate_callee (f := 23) rfl ?_); refine goesL_ (some 12) rfl rfl Try.func23 (by kernel_rfl) rfl #[] rfl pA ?_; (with_reducible refine (gradinelaw31_same.calls  zi _ A6.out).mono ?_); rintro e w10 ⟨rfl, hb⟩; refine ⟨_, rfl, ?_⟩; replace za := bK za hb; replace HB := bS (qB1 HB zb) hb; (try clear hb); (try clear hk); (try clear hi)))
  go_ret
  replace hv_ := hv_.out
  exact ⟨pE, qB1 HB zb⟩
 replace c5 := Bool.eq_false_iff.mpr c5
 subst c5
 rw [if_neg (show ¬ (false = true) by decide)] at H
 replace H := Option.bind_eq_some_iff.mp H
 obtain ⟨⟨ze, zg⟩, zo, H⟩ := H
 try dsimp only at H
 have A11 := aM zo
 clear zo
 by_cases c12 : zg = 0
 rotate_left
 ·rw [if_neg c12] at H
  have c12b0 : (zg == 0) = false := beq_eq_false_iff_ne.mpr c12
  have c12b1 : (zg != 0) = true := bne_iff_ne.mpr c12
  by_cases c23 : (ze.length : Int) = 0
  rotate_left
  ·rw [if_neg c23] at H
   have c23b0 : ((ze.length : Int) == 0) = false := beq_eq_false_iff_ne.mpr c23
   have c23b1 : ((ze.length : Int) != 0) = true := bne_iff_ne.mpr c23
   have c23b2 : ¬ (ze = []) := fun h_ => c23 (by rw [h_]; rfl)
   exact absurd H (by simp)
  rw [if_pos c23] at H
  have c23b0 : ((ze.length : Int) == 0) = true := beq_iff_eq.mpr c23
  have c23b1 : ((ze.length : Int) != 0) = false := bne_eq_false_iff_eq.mpr c23
  clear c23
  replace H := Option.bind_eq_some_iff.mp H
  obtain ⟨zk, zp, H⟩ := H
  try dsimp only at H
  have A24 := aM zp
  clear zp
  have hv_ := aM (Option.some.inj H)
  clear H
  go_enter Try.func7, Try.ntmps7
  go_wp2_with (first | ((with_reducible refine gate_dst (N := 4) rfl ?_); (try (refine gate_guard (by rfl) ?_; dsimp only)); refine box_event ?hg (N := 4) ?hd (cs := #[.int .i64 a1_0, .int .i64 a1_1, .int .i64 a1_2, .int .i64 a1_3, .int .i64 a1_4, .int .i64 a1_5, .int .i64 a1_6, .int .i64 a1_7, .bool a1_8, .slice A1_9 l1_9.length c1_9]) (t := 24) ?hr ?_; (case hd => rfl); (case hg => rfl); (case hr => first | (go_simp; done) | (go_simp; rfl)); intro zn hg w25 hbox hb; have za := aM (hbox); have zf := gE (w := w) hg (qB HB); have zb := zf; replace HB := bS (qB HB) hb; clear hb hbox hg; obtain ⟨hcz26_0, hcz26_1, hcz26_2, hcz26_3, hcz26_4, hcz26_5, hcz26_6, hcz26_7, hcz26_8, hcz26_9, hfz26_0, hfz26_1, hfz26_2, hfz26_3, hfz26_4, hfz26_5, hfz26_6, hfz26_7, hfz26_8, hfz26_9⟩ := blk10 za.out) | ((with_reducible refine gate_callee (f := 22) rfl ?_); refine goesL_ (some 11) rfl rfl Try.func22 (by kernel_rfl) rfl #[.agg #[.int .i64 a1_0, .int .i64 a1_1, .int .i64 a1_2, .int .i64 a1_3, .int .i64 a1_4, .int .i64 a1_5, .int .i64 a1_6, .int .i64 a1_7, .bool a1_8, .slice A1_9 l1_9.length c1_9], .slice A2 l2.length c2] rfl pA ?_; (with_reducible refine (gradinelaw31_Many.calls k a1_0 a1_1 a1_2 a1_3 a1_4 a1_5 a1_6 a1_7 a1_8 _ _ l1_9 _ _ l2 false _ ?s1 ?s2 ?s3 ?s4 A4.out).mono ?_); (case s1 => exact sC zl HB); (case s2 => exact zm.out); (case s3 => exact sC HR2 HB); (case s4 => exact HC2.out); rintro e w27 ⟨rfl, hb⟩; refine ⟨_, rfl, ?_⟩; replace za := bK za hb; replace HB := bS (qB1 HB zb) hb; (try clear hb); (try clear hk); (try clear hi); obtain ⟨hcz28_0, hcz28_1, hcz28_2, hcz28_3, hcz28_4, hcz28_5, hcz28_6, hcz28_7, hcz28_8, hcz28_9, hfz28_0, hfz28_1, hfz28_2, hfz28_3, hfz28_4, hfz28_5, hfz28_6, hfz28_7, hfz28_8, hfz28_9⟩ := blk10 za.out) | ((with_reducible refine gate_callee (f := 24) rfl ?_); refine goesL_ (some 17) rfl rfl Try.func24 (by kernel_rfl) rfl #[.int .i64 a0, .agg #[.int .i64 a1_0, .int .i64 a1_1, .int .i64 a1_2, .int .i64 a1_3, .int .i64 a1_4, .int .i64 a1_5, .int .i64 a1_6, .int .i64 a1_7, .bool a1_8, .slice A1_9 l1_9.length c1_9], .slice A2 l2.length c2] rfl pA ?_; (with_reducible refine (infer_Dims.calls k a0 a1_0 a1_1 a1_2 a1_3 a1_4 a1_5 a1_6 a1_7 a1_8 _ _ l1_9 _ _ l2 ze zg _ ?s1 ?s2 ?s3 ?s4 A11.out).mono ?_); (case s1 => exact sC zl HB); (case s2 => exact zm.out); (case s3 => exact sC HR2 HB); (case s4 => exact HC2.out); rintro e w29 ⟨v1131, rfl, ho0, hb⟩; refine ⟨_, rfl, ?_⟩; have zc := aM (Kd.R_lower ho0 (below_size (qB1 HB zb))); replace za := bK za hb; replace HB := bS (qB1 HB zb) hb; (try clear hb); (try clear hk); (try clear hi); (try clear ho0); obtain ⟨Ao30, co30, eo30⟩ := Kd.R_slice zc.out; subst eo30) | (go_at_call 23; (with_reducible refine (gradinelaw31_same.calls  zk _ A24.out).mono ?_); rintro e w31 ⟨rfl, hb⟩; replace zc := bR zc hb; replace za := bK za hb; replace HB := bS (qB1 HB zb) hb; (try clear hb); (try clear hk); (try clear hi)))
  go_ret
  replace hv_ := hv_.out
  exact ⟨pE, qB1 HB zb⟩
 rw [if_pos c12] at H
 have c12b0 : (zg == 0) = true := beq_iff_eq.mpr c12
 have c12b1 : (zg != 0) = false := bne_eq_false_iff_eq.mpr c12
 clear c12
 replace H := Option.bind_eq_some_iff.mp H
 obtain ⟨zd, zq, H⟩ := H
 try dsimp only at H
 have A13 := aM zq
 clear zq
 by_cases c14 : zd = 0
 rotate_left
 ·rw [if_neg c14] at H
  have c14b0 : (zd == 0) = false := beq_eq_false_iff_ne.mpr c14
  have c14b1 : (zd != 0) = true := bne_iff_ne.mpr c14
  exact absurd H (by simp)
 rw [if_pos c14] at H
 have c14b0 : (zd == 0) = true := beq_iff_eq.mpr c14
 have c14b1 : (zd != 0) = false := bne_eq_false_iff_eq.mpr c14
 clear c14
 replace H := Option.bind_eq_some_iff.mp H
 obtain ⟨zj, zr, H⟩ := H
 try dsimp only at H
 have A15 := aM zr
 clear zr
 have hv_ := aM (Option.some.inj H)
 clear H
 go_enter Try.func7, Try.ntmps7
 go_wp2_with (first | ((with_reducible refine gate_dst (N := 4) rfl ?_); (try (refine gate_guard (by rfl) ?_; dsimp only)); refine box_event ?hg (N := 4) ?hd (cs := #[.int .i64 a1_0, .int .i64 a1_1, .int .i64 a1_2, .int .i64 a1_3, .int .i64 a1_4, .int .i64 a1_5, .int .i64 a1_6, .int .i64 a1_7, .bool a1_8, .slice A1_9 l1_9.length c1_9]) (t := 24) ?hr ?_; (case hd => rfl); (case hg => rfl); (case hr => first | (go_simp; done) | (go_simp; rfl)); intro zn hg w16 hbox hb; have za := aM (hbox); have zf := gE (w := w) hg (qB HB); have zb := zf; replace HB := bS (qB HB) hb; clear hb hbox hg; obtain ⟨hcz17_0, hcz17_1, hcz17_2, hcz17_3, hcz17_4, hcz17_5, hcz17_6, hcz17_7, hcz17_8, hcz17_9, hfz17_0, hfz17_1, hfz17_2, hfz17_3, hfz17_4, hfz17_5, hfz17_6, hfz17_7, hfz17_8, hfz17_9⟩ := blk10 za.out) | ((with_reducible refine gate_callee (f := 22) rfl ?_); refine goesL_ (some 11) rfl rfl Try.func22 (by kernel_rfl) rfl #[.agg #[.int .i64 a1_0, .int .i64 a1_1, .int .i64 a1_2, .int .i64 a1_3, .int .i64 a1_4, .int .i64 a1_5, .int .i64 a1_6, .int .i64 a1_7, .bool a1_8, .slice A1_9 l1_9.length c1_9], .slice A2 l2.length c2] rfl pA ?_; (with_reducible refine (gradinelaw31_Many.calls k a1_0 a1_1 a1_2 a1_3 a1_4 a1_5 a1_6 a1_7 a1_8 _ _ l1_9 _ _ l2 false _ ?s1 ?s2 ?s3 ?s4 A4.out).mono ?_); (case s1 => exact sC zl HB); (case s2 => exact zm.out); (case s3 => exact sC HR2 HB); (case s4 => exact HC2.out); rintro e w18 ⟨rfl, hb⟩; refine ⟨_, rfl, ?_⟩; replace za := bK za hb; replace HB := bS (qB1 HB zb) hb; (try clear hb); (try clear hk); (try clear hi); obtain ⟨hcz19_0, hcz19_1, hcz19_2, hcz19_3, hcz19_4, hcz19_5, hcz19_6, hcz19_7, hcz19_8, hcz19_9, hfz19_0, hfz19_1, hfz19_2, hfz19_3, hfz19_4, hfz19_5, hfz19_6, hfz19_7, hfz19_8, hfz19_9⟩ := blk10 za.out) | ((with_reducible refine gate_callee (f := 24) rfl ?_); refine goesL_ (some 17) rfl rfl Try.func24 (by kernel_rfl) rfl #[.int .i64 a0, .agg #[.int .i64 a1_0, .int .i64 a1_1, .int .i64 a1_2, .int .i64 a1_3, .int .i64 a1_4, .int .i64 a1_5, .int .i64 a1_6, .int .i64 a1_7, .bool a1_8, .slice A1_9 l1_9.length c1_9], .slice A2 l2.length c2] rfl pA ?_; (with_reducible refine (infer_Dims.calls k a0 a1_0 a1_1 a1_2 a1_3 a1_4 a1_5 a1_6 a1_7 a1_8 _ _ l1_9 _ _ l2 ze zg _ ?s1 ?s2 ?s3 ?s4 A11.out).mono ?_); (case s1 => exact sC zl HB); (case s2 => exact zm.out); (case s3 => exact sC HR2 HB); (case s4 => exact HC2.out); rintro e w20 ⟨v1131, rfl, ho0, hb⟩; refine ⟨_, rfl, ?_⟩; have zc := aM (Kd.R_lower ho0 (below_size (qB1 HB zb))); replace za := bK za hb; replace HB := bS (qB1 HB zb) hb; (try clear hb); (try clear hk); (try clear hi); (try clear ho0); obtain ⟨Ao21, co21, eo21⟩ := Kd.R_slice zc.out; subst eo21) | (go_at_call 30; (with_reducible refine (gradineref19_Check.calls k _ _ ze zd _ ?s1 ?s2 A13.out).mono ?_); (case s1 => exact sR zc); (case s2 => exact sL zc); rintro e w' ⟨rfl, ⟨nd, rfl⟩⟩) | (go_at_call 23; (with_reducible refine (gradinelaw31_same.calls  zj _ A15.out).mono ?_); rintro e w22 ⟨rfl, hb⟩; replace zc := bR zc hb; replace za := bK za hb; replace HB := bS (qB1 HB zb) hb; (try clear hb); (try clear hk); (try clear hi)))
 go_ret
 replace hv_ := hv_.out
 exact ⟨pE, qB1 HB zb⟩
end Go.Proofs.Ytcdiobcldhiemaa.Q
namespace Gr
/-- How many elements dims have; 0, if they may not be. -/
def cnt (d : List Int) : Int := if chk d = 0 then prod d else 0
/-- Products of what stands behind. -/
def stp : List Int → List Int
  | [] => []
  | _ :: l => prod l :: stp l
def steps (d : List Int) : List Int := if chk d = 0 then stp d else []
/-- Are axes such as may be, those of 'seen' being taken? -/
def axv (rank : Int) : List Int → List Int → Bool
  | _, [] => true
  | seen, a :: l => decide (0 ≤ a) && decide (a < rank) && !(seen.contains a) && axv rank (seen ++ [a]) l
def marks (rank : Nat) (l : List Int) : List Bool := (List.range rank).map fun i : Nat => l.contains (i : Int)
def mks (rank : Nat) (l : List Int) : List Bool := (List.range rank).map fun i : Nat => l.isEmpty || l.contains (i : Int)
def axs (rank : Int) (l : List Int) : List Bool × Int :=
  if rank < 0 ∨ 6 < rank then ([], 9) else if axv rank [] l = true then (mks rank.toNat l, 0) else ([], 10)
def drp (keep : Bool) : List Bool → List Int → List Int
  | m :: ms, x :: xs => if m = true then (if keep = true then 1 :: drp keep ms xs else drp keep ms xs) else x :: drp keep ms xs
  | _, _ => []
def drop (d axes : List Int) (keep : Bool) : List Int × Int :=
  if chk d = 0 then (if (axs d.length axes).2 = 0 then (drp keep (axs d.length axes).1 d, 0) else ([], (axs d.length axes).2)) else ([], chk d)
def at0 (l : List Int) (i : Int) : Int := l.getD i.toNat 0
def prm (d axes : List Int) : List Int := axes.map fun a => at0 d a
def perm (d axes : List Int) : List Int × Int :=
  if chk d = 0 then (if axes.length = d.length ∧ (axs d.length axes).2 = 0 then (prm d axes, 0) else ([], 10)) else ([], chk d)
def withd (d : List Int) (axis size : Int) : List Int × Int :=
  if chk d = 0 then (if axis < 0 ∨ (d.length : Int) ≤ axis then ([], 10) else (if chk (d.set axis.toNat size) = 0 then (d.set axis.toNat size, 0) else ([], chk (d.set axis.toNat size)))) else ([], chk d)
theorem chk_ok {d : List Int} (h : chk d = 0) : d.length ≤ 6 ∧ (∀ x ∈ d, 1 ≤ x) ∧ prod d ≤ 64 := by
  unfold chk at h
  split at h
  · omega
  · rename_i h6
    split at h
    · omega
    · rename_i h1
      split at h
      · omega
      · rename_i h2
        refine ⟨by omega, fun x hx => ?_, by omega⟩
        rw [Bool.not_eq_true, List.any_eq_false] at h1
        have := h1 x hx
        simp at this
        omega
theorem ok_chk {d : List Int} (h6 : d.length ≤ 6) (h1 : ∀ x ∈ d, 1 ≤ x) (h2 : prod d ≤ 64) : chk d = 0 := by
  unfold chk
  rw [if_neg (by omega), if_neg, if_neg (by omega)]
  rw [Bool.not_eq_true, List.any_eq_false]
  intro x hx
  have := h1 x hx
  simp
  omega
theorem ok_le {d : List Int} (h : chk d = 0) : ∀ x ∈ d, x ≤ 64 := by
  obtain ⟨_, h1, h2⟩ := chk_ok h
  intro x hx
  obtain ⟨a, b, rfl⟩ := List.append_of_mem hx
  rw [prod_append] at h2
  simp only [prod] at h2
  have ha := prod_pos a (fun y hy => h1 y (by simp [hy]))
  have hb := prod_pos b (fun y hy => h1 y (by simp [hy]))
  have hx1 := h1 x (by simp)
  have h3 : 1 * (x * prod b) ≤ prod a * (x * prod b) := Int.mul_le_mul_of_nonneg_right ha (Int.mul_nonneg (by omega) (by omega))
  have h4 : x * 1 ≤ x * prod b := Int.mul_le_mul_of_nonneg_left hb (by omega)
  omega
theorem ok_drop {d : List Int} (h : chk d = 0) (i : Nat) : chk (d.drop i) = 0 := by
  obtain ⟨h6, h1, h2⟩ := chk_ok h
  refine ok_chk (by simp; omega) (fun x hx => h1 x (List.mem_of_mem_drop hx)) ?_
  have e : prod d = prod (d.take i) * prod (d.drop i) := by rw [← prod_append, List.take_append_drop]
  have ha := prod_pos (d.take i) (fun y hy => h1 y (List.mem_of_mem_take hy))
  have hb := prod_pos (d.drop i) (fun y hy => h1 y (List.mem_of_mem_drop hy))
  have h3 : 1 * prod (d.drop i) ≤ prod (d.take i) * prod (d.drop i) := Int.mul_le_mul_of_nonneg_right ha (by omega)
  omega
theorem cnt_ok {d : List Int} (h : chk d = 0) : cnt d = prod d ∧ 1 ≤ cnt d ∧ cnt d ≤ 64 := by
  obtain ⟨h6, h1, h2⟩ := chk_ok h
  have := prod_pos d h1
  unfold cnt
  rw [if_pos h]
  exact ⟨rfl, this, h2⟩
theorem stp_length (d : List Int) : (stp d).length = d.length := by
  induction d with
  | nil => rfl
  | cons x d ih => simp [stp, ih]
theorem prod_perm {a b : List Int} (h : a.Perm b) : prod a = prod b := by
  induction h with
  | nil => rfl
  | cons x _ ih => simp [prod, ih]
  | swap x y l => simp only [prod]; rw [← Int.mul_assoc, ← Int.mul_assoc, Int.mul_comm x y]
  | trans _ _ ih1 ih2 => rw [ih1, ih2]
theorem perm_of_sub {l m : List Int} (hl : l.Nodup) (h : ∀ x ∈ l, x ∈ m) (hn : m.length ≤ l.length) : l.Perm m := by
  induction l generalizing m with
  | nil =>
    have : m = [] := List.eq_nil_of_length_eq_zero (by simp at hn; simp [hn])
    rw [this]
  | cons a l ih =>
    have ha : a ∈ m := h a (by simp)
    have hp := List.perm_cons_erase ha
    rw [List.nodup_cons] at hl
    have hle : (m.erase a).length = m.length - 1 := List.length_erase_of_mem ha
    refine (List.Perm.cons a (ih hl.2 (fun x hx => ?_) (by simp at hn; omega))).trans hp.symm
    have hx2 := h x (by simp [hx])
    refine (List.mem_erase_of_ne (fun e => ?_)).2 hx2
    exact hl.1 (e ▸ hx)
theorem axv_nodup (r : Int) (s l : List Int) (h : axv r s l = true) : l.Nodup ∧ ∀ a ∈ l, a ∉ s := by
  induction l generalizing s with
  | nil => simp
  | cons x l ih =>
    simp only [axv, Bool.and_eq_true, Bool.not_eq_true', decide_eq_true_eq] at h
    obtain ⟨h1, h2⟩ := ih _ h.2
    have hx : x ∉ s := by
      have := h.1.2
      simpa using this
    refine ⟨List.nodup_cons.2 ⟨fun hm => ?_, h1⟩, fun a ha => ?_⟩
    · exact h2 x hm (by simp)
    · rcases List.mem_cons.1 ha with rfl | ha
      · exact hx
      · intro hs; exact h2 a ha (by simp [hs])
theorem axv_all (r : Int) (s l : List Int) (h : axv r s l = true) : ∀ a ∈ l, 0 ≤ a ∧ a < r := by
  induction l generalizing s with
  | nil => simp
  | cons x l ih =>
    simp only [axv, Bool.and_eq_true, decide_eq_true_eq] at h
    intro a ha
    rcases List.mem_cons.1 ha with rfl | ha
    · exact ⟨h.1.1.1, h.1.1.2⟩
    · exact ih _ h.2 a ha
theorem axs_axv {d l : List Int} (h : (axs d.length l).2 = 0) : axv d.length [] l = true := by
  unfold axs at h
  split at h
  · simp at h
  · split at h
    · rename_i h2; exact h2
    · simp at h
theorem at0_range (d : List Int) : ((List.range d.length).map fun i : Nat => at0 d (i : Int)) = d := by
  apply List.ext_getElem (by simp)
  intro i h1 h2
  simp [at0, List.getD_eq_getElem?_getD, List.getElem?_eq_getElem h2]
theorem axes_perm {d l : List Int} (h : (axs d.length l).2 = 0) (hl : l.length = d.length) : l.Perm ((List.range d.length).map fun i : Nat => (i : Int)) := by
  have hv := axs_axv h
  refine perm_of_sub (axv_nodup _ _ _ hv).1 (fun x hx => ?_) (by simp [hl])
  obtain ⟨h0, h1⟩ := axv_all _ _ _ hv x hx
  simp only [List.mem_map, List.mem_range]
  exact ⟨x.toNat, by omega, by omega⟩
theorem prm_perm {d l : List Int} (h : (axs d.length l).2 = 0) (hl : l.length = d.length) : (prm d l).Perm d := by
  have := (axes_perm h hl).map (fun a => at0 d a)
  rw [List.map_map] at this
  have e : ((fun a => at0 d a) ∘ fun i : Nat => (i : Int)) = fun i : Nat => at0 d (i : Int) := rfl
  rw [e, at0_range] at this
  exact this
theorem chk_perm {a b : List Int} (h : a.Perm b) (hb : chk b = 0) : chk a = 0 := by
  obtain ⟨h6, h1, h2⟩ := chk_ok hb
  refine ok_chk (by rw [h.length_eq]; exact h6) (fun x hx => h1 x (h.mem_iff.1 hx)) (by rw [prod_perm h]; exact h2)
/-- The product of the marked ones. -/
def pm : List Bool → List Int → Int
  | m :: ms, x :: xs => if m = true then x * pm ms xs else pm ms xs
  | _, _ => 1
theorem pm_pos (m : List Bool) (d : List Int) (h : ∀ x ∈ d, 1 ≤ x) : 1 ≤ pm m d := by
  induction d generalizing m with
  | nil => cases m <;> simp [pm]
  | cons x d ih =>
    cases m with
    | nil => simp [pm]
    | cons b m =>
      have h1 := h x (by simp)
      have h2 := ih m (fun y hy => h y (by simp [hy]))
      simp only [pm]
      split
      · have : 0 < x * pm m d := Int.mul_pos (by omega) (by omega)
        omega
      · exact h2
theorem drp_pm (m : List Bool) (d : List Int) (hm : m.length = d.length) : prod (drp false m d) * pm m d = prod d := by
  induction d generalizing m with
  | nil => cases m <;> simp [pm, drp, prod]
  | cons x d ih =>
    cases m with
    | nil => simp at hm
    | cons b m =>
      have h2 := ih m (by simpa using hm)
      simp only [pm, drp, prod]
      split
      · simp only [Bool.false_eq_true, if_false]
        rw [← h2, ← Int.mul_assoc, ← Int.mul_assoc, Int.mul_comm x]
      · simp only [prod]
        rw [← h2, Int.mul_assoc]
theorem drp_true (m : List Bool) (d : List Int) (hm : m.length = d.length) : prod (drp true m d) = prod (drp false m d) ∧ (drp true m d).length = d.length := by
  induction d generalizing m with
  | nil => cases m <;> simp [drp, prod]
  | cons x d ih =>
    cases m with
    | nil => simp at hm
    | cons b m =>
      obtain ⟨h2, h3⟩ := ih m (by simpa using hm)
      simp only [drp, if_true]
      split
      · simp [prod, h2, h3]
      · simp [prod, h2, h3]
theorem drp_pos (keep : Bool) (m : List Bool) (d : List Int) (h : ∀ x ∈ d, 1 ≤ x) : ∀ x ∈ drp keep m d, 1 ≤ x := by
  induction d generalizing m with
  | nil => cases m <;> simp [drp]
  | cons x d ih =>
    cases m with
    | nil => simp [drp]
    | cons b m =>
      have h1 := h x (by simp)
      have h2 := ih m (fun y hy => h y (by simp [hy]))
      simp only [drp]
      split
      · split
        · intro y hy; rcases List.mem_cons.1 hy with rfl | hy
          · omega
          · exact h2 y hy
        · exact h2
      · intro y hy; rcases List.mem_cons.1 hy with rfl | hy
        · exact h1
        · exact h2 y hy
theorem drp_len_le (keep : Bool) (m : List Bool) (d : List Int) : (drp keep m d).length ≤ d.length := by
  induction d generalizing m with
  | nil => cases m <;> simp [drp]
  | cons x d ih =>
    cases m with
    | nil => simp [drp]
    | cons b m =>
      have := ih m
      simp only [drp]
      split
      · split <;> simp <;> omega
      · simp; omega
theorem drp_ok (keep : Bool) (m : List Bool) (d : List Int) (hm : m.length = d.length) (h : chk d = 0) : chk (drp keep m d) = 0 ∧ prod (drp keep m d) * pm m d = prod d := by
  obtain ⟨h6, h1, h2⟩ := chk_ok h
  have e : prod (drp keep m d) * pm m d = prod d := by
    cases keep with
    | false => exact drp_pm m d hm
    | true => rw [(drp_true m d hm).1]; exact drp_pm m d hm
  refine ⟨ok_chk (by have := drp_len_le keep m d; omega) (drp_pos keep m d h1) ?_, e⟩
  have p1 := prod_pos _ (drp_pos keep m d h1)
  have p2 := pm_pos m d h1
  have : prod (drp keep m d) * 1 ≤ prod (drp keep m d) * pm m d := Int.mul_le_mul_of_nonneg_left p2 (by omega)
  omega
/-- The place of the n-th element. -/
def dig : List Int → Int → List Int
  | [], _ => []
  | x :: l, n => n / prod l % x :: dig l n
/-- The number of a place. -/
def num : List Int → List Int → Int
  | _ :: d, a :: r => a * prod d + num d r
  | _, _ => 0
/-- Is it a place of these dims? -/
def inb : List Int → List Int → Bool
  | [], [] => true
  | x :: d, a :: r => decide (0 ≤ a) && decide (a < x) && inb d r
  | _, _ => false
def alls (d : List Int) : List (List Int) := if chk d = 0 then (List.range (prod d).toNat).map fun n : Nat => dig d (n : Int) else []
theorem num_dig (d : List Int) (h : ∀ x ∈ d, 1 ≤ x) (n : Int) : num d (dig d n) = n % prod d := by
  induction d with
  | nil => simp [num, prod, Int.emod_one]
  | cons x d ih =>
    have hx := h x (by simp)
    have hp := prod_pos d (fun y hy => h y (by simp [hy]))
    simp only [num, dig, prod]
    rw [ih (fun y hy => h y (by simp [hy]))]
    have e1 : x * prod d = prod d * x := Int.mul_comm ..
    have h1 := Int.emod_add_mul_ediv n (prod d)
    have h2 := Int.emod_add_mul_ediv (n / prod d) x
    have h3 : n = (n / prod d % x * prod d + n % prod d) + (x * prod d) * (n / prod d / x) := by
      have : prod d * (n / prod d) = prod d * (n / prod d % x) + prod d * (x * (n / prod d / x)) := by rw [← Int.mul_add, h2]
      rw [show (x * prod d) * (n / prod d / x) = prod d * (x * (n / prod d / x)) by rw [e1, Int.mul_assoc], Int.mul_comm (n / prod d % x)]
      omega
    have b1 := Int.emod_nonneg (n / prod d) (show x ≠ 0 by omega)
    have b2 := Int.emod_lt_of_pos (n / prod d) (show 0 < x by omega)
    have b3 := Int.emod_nonneg n (show prod d ≠ 0 by omega)
    have b4 := Int.emod_lt_of_pos n (show 0 < prod d by omega)
    have b5 : 0 ≤ n / prod d % x * prod d := Int.mul_nonneg b1 (by omega)
    have b6 : (n / prod d % x + 1) * prod d ≤ x * prod d := Int.mul_le_mul_of_nonneg_right (by omega) (by omega)
    rw [Int.add_mul] at b6
    have h4 := Int.add_mul_emod_self_left (n / prod d % x * prod d + n % prod d) (x * prod d) (n / prod d / x)
    rw [← h3] at h4
    rw [h4]
    exact (Int.emod_eq_of_lt (by omega) (by omega)).symm
theorem num_dig_lt (d : List Int) (h : ∀ x ∈ d, 1 ≤ x) (n : Int) (h0 : 0 ≤ n) (h1 : n < prod d) : num d (dig d n) = n := by
  rw [num_dig d h n, Int.emod_eq_of_lt h0 h1]
theorem inb_dig (d : List Int) (h : ∀ x ∈ d, 1 ≤ x) (n : Int) : inb d (dig d n) = true := by
  induction d with
  | nil => rfl
  | cons x d ih =>
    have hx := h x (by simp)
    simp only [inb, dig]
    rw [ih (fun y hy => h y (by simp [hy]))]
    have b1 := Int.emod_nonneg (n / prod d) (show x ≠ 0 by omega)
    have b2 := Int.emod_lt_of_pos (n / prod d) (show 0 < x by omega)
    simp [b1, b2]
theorem inb_length {d r : List Int} (h : inb d r = true) : r.length = d.length := by
  induction d generalizing r with
  | nil => cases r <;> simp_all [inb]
  | cons x d ih =>
    cases r with
    | nil => simp [inb] at h
    | cons a r =>
      simp only [inb, Bool.and_eq_true] at h
      simp [ih h.2]
theorem num_lt (d r : List Int) (h : ∀ x ∈ d, 1 ≤ x) (hi : inb d r = true) : 0 ≤ num d r ∧ num d r < prod d := by
  induction d generalizing r with
  | nil => cases r <;> simp [num, prod]
  | cons x d ih =>
    cases r with
    | nil => simp [inb] at hi
    | cons a r =>
      simp only [inb, Bool.and_eq_true, decide_eq_true_eq] at hi
      obtain ⟨i1, i2⟩ := ih r (fun y hy => h y (by simp [hy])) hi.2
      have hp := prod_pos d (fun y hy => h y (by simp [hy]))
      simp only [num, prod]
      have b5 : 0 ≤ a * prod d := Int.mul_nonneg hi.1.1 (by omega)
      have b6 : (a + 1) * prod d ≤ x * prod d := Int.mul_le_mul_of_nonneg_right (by omega) (by omega)
      rw [Int.add_mul] at b6
      omega
theorem dig_add (d : List Int) (h : ∀ x ∈ d, 1 ≤ x) (a m : Int) : dig d (a * prod d + m) = dig d m := by
  induction d generalizing a with
  | nil => rfl
  | cons y d ih =>
    have hy := h y (by simp)
    have hp := prod_pos d (fun z hz => h z (by simp [hz]))
    simp only [dig, prod]
    rw [show a * (y * prod d) = (a * y) * prod d by rw [Int.mul_assoc]]
    rw [ih (fun z hz => h z (by simp [hz])) (a * y)]
    rw [Int.add_comm ((a * y) * prod d) m, Int.add_mul_ediv_right _ _ (by omega), Int.mul_comm a y, Int.add_mul_emod_self_left]
theorem dig_num (d r : List Int) (h : ∀ x ∈ d, 1 ≤ x) (hi : inb d r = true) : dig d (num d r) = r := by
  induction d generalizing r with
  | nil => cases r <;> simp_all [inb, dig]
  | cons x d ih =>
    cases r with
    | nil => simp [inb] at hi
    | cons a r =>
      simp only [inb, Bool.and_eq_true, decide_eq_true_eq] at hi
      have hd : ∀ y ∈ d, 1 ≤ y := fun y hy => h y (by simp [hy])
      obtain ⟨i1, i2⟩ := num_lt d r hd hi.2
      have hp := prod_pos d hd
      simp only [num, dig]
      rw [dig_add d hd, ih r hd hi.2]
      rw [Int.add_comm, Int.add_mul_ediv_right _ _ (by omega), Int.ediv_eq_zero_of_lt i1 i2, Int.zero_add, Int.emod_eq_of_lt hi.1.1 hi.1.2]
/-- All places of a prefix. -/
def pre (p : List Int) : List (List Int) := (List.range (prod p).toNat).map fun n : Nat => dig p (n : Int)
theorem alls_ok {d : List Int} (h : chk d = 0) : alls d = pre d := by unfold alls; rw [if_pos h]; rfl
theorem alls_length (d : List Int) : ((alls d).length : Int) = cnt d := by
  unfold alls cnt
  split
  · rename_i h
    have := prod_pos d (chk_ok h).2.1
    simp; omega
  · rfl
theorem alls_get (d : List Int) (n : Nat) (h : n < (alls d).length) : (alls d)[n] = dig d (n : Int) := by
  unfold alls at h ⊢
  split
  · simp
  · rename_i hc; rw [if_neg hc] at h; simp at h
def inr (l : List Int) (m : Int) : Bool := l.all fun i => decide (0 ≤ i) && decide (i < m)
def putd (d : List Int) (n a : Int) (l : List Int) : List Int × Int :=
  if (withd d n a).2 = 0 then (if (l.length : Int) = at0 d n then (if inr l a = true then ((withd d n a).1, 0) else ([], 11)) else ([], 8)) else ([], (withd d n a).2)
def takd (d : List Int) (n : Int) (l : List Int) : List Int × Int :=
  if n < 0 ∨ (d.length : Int) ≤ n then ([], 10) else if inr l (at0 d n) = true then withd d n (l.length : Int) else ([], 11)
theorem inr_cons (x : Int) (l : List Int) (m : Int) : inr (x :: l) m = true ↔ (0 ≤ x ∧ x < m) ∧ inr l m = true := by
  simp [inr, List.all_cons]
theorem at0_g29 (l : List Int) (i : Nat) (h : i < l.length) : at0 l (i : Int) = l[i] := by
  simp [at0, List.getD_eq_getElem?_getD, List.getElem?_eq_getElem h]
theorem withd_o29 {d : List Int} {n a : Int} (h : (withd d n a).2 = 0) : chk d = 0 ∧ 0 ≤ n ∧ n < (d.length : Int) ∧ chk (d.set n.toNat a) = 0 ∧ withd d n a = (d.set n.toNat a, 0) := by
  unfold withd at h ⊢
  split at h
  · rename_i h1
    split at h
    · simp at h
    · rename_i h2
      split at h
      · rename_i h3
        exact ⟨h1, by omega, by omega, h3, by rw [if_pos h1, if_neg h2, if_pos h3]⟩
      · exact absurd h (by assumption)
  · exact absurd h (by assumption)
theorem putd_ok {d : List Int} {n a : Int} {l : List Int} (h : (putd d n a l).2 = 0) :
    chk d = 0 ∧ 0 ≤ n ∧ n < (d.length : Int) ∧ chk (d.set n.toNat a) = 0 ∧ (l.length : Int) = at0 d n ∧ inr l a = true ∧ putd d n a l = (d.set n.toNat a, 0) := by
  unfold putd at h ⊢
  split at h
  · rename_i h1
    obtain ⟨w1, w2, w3, w4, w5⟩ := withd_o29 h1
    split at h
    · rename_i h2
      split at h
      · rename_i h3
        exact ⟨w1, w2, w3, w4, h2, h3, by rw [if_pos h1, if_pos h2, if_pos h3, w5]⟩
      · simp at h
    · simp at h
  · exact absurd h (by assumption)
theorem putd_err {d : List Int} {n a : Int} {l : List Int} (h : ¬ (putd d n a l).2 = 0) : (putd d n a l).1 = [] := by
  unfold putd at h ⊢
  split
  · split
    · split
      · rename_i h1 h2 h3
        rw [if_pos h1, if_pos h2, if_pos h3] at h
        exact absurd rfl h
      · rfl
    · rfl
  · rfl
theorem inb_dropn (d r : List Int) (h : inb d r = true) (i : Nat) : inb (d.drop i) (r.drop i) = true := by
  induction i generalizing d r with
  | zero => simpa using h
  | succ i ih =>
    cases d with
    | nil => cases r <;> simp_all [inb]
    | cons x d =>
      cases r with
      | nil => simp [inb] at h
      | cons a r =>
        simp only [inb, Bool.and_eq_true] at h
        simpa using ih d r h.2
/-- How far a place lies from a view's first element. -/
def ofs : List Int → List Int → Int
  | a :: p, t :: s => a * t + ofs p s
  | _, _ => 0
/-- Are the steps such as may be in a room? -/
def sok (room : Int) : List Int → List Int → Bool
  | x :: d, t :: s => (decide (x ≤ 1) || (decide (-room < t) && decide (t < room))) && sok room d s
  | _, _ => true
def low : List Int → List Int → Int
  | x :: d, t :: s => (if (x - 1) * t < 0 then (x - 1) * t else 0) + low d s
  | _, _ => 0
def hgh : List Int → List Int → Int
  | x :: d, t :: s => (if (x - 1) * t < 0 then 0 else (x - 1) * t) + hgh d s
  | _, _ => 0
/-- All but the range of the cells. -/
abbrev vok (o : Int) (d s : List Int) (room : Int) : Prop := chk d = 0 ∧ s.length = d.length ∧ room ≤ 64 ∧ 0 ≤ o ∧ o < room ∧ sok room d s = true
def rgt (o : Int) (d s : List Int) (room : Int) : Bool := decide (vok o d s room) && decide (0 ≤ o + low d s) && decide (o + hgh d s < room)
def cls (o : Int) (d s : List Int) (room : Int) : List Int := if rgt o d s room = true then (alls d).map fun p => o + ofs p s else []
/-- One behind the other? -/
def row : List Int → Bool
  | [] => false
  | a :: l => decide (a :: l = (List.range (l.length + 1)).map fun i : Nat => a + (i : Int))
def rws : List Int → List Int → Bool
  | x :: d, t :: s => rws d s && (decide (x ≤ 1) || decide (t = prod d))
  | _, _ => true
theorem mem_alls {d : List Int} (h : chk d = 0) {p : List Int} : p ∈ alls d ↔ inb d p = true := by
  obtain ⟨h6, h1, h2⟩ := chk_ok h
  rw [alls_ok h]
  unfold pre
  rw [List.mem_map]
  constructor
  · rintro ⟨n, _, rfl⟩; exact inb_dig d h1 _
  · intro hi
    obtain ⟨q1, q2⟩ := num_lt d p h1 hi
    refine ⟨(num d p).toNat, ?_, ?_⟩
    · rw [List.mem_range]; omega
    · rw [Int.toNat_of_nonneg q1]; exact dig_num d p h1 hi
theorem mul_between {a x t : Int} (h0 : 0 ≤ a) (h1 : a ≤ x - 1) : (if (x - 1) * t < 0 then (x - 1) * t else 0) ≤ a * t ∧ a * t ≤ (if (x - 1) * t < 0 then 0 else (x - 1) * t) := by
  rcases Int.lt_or_le t 0 with ht | ht
  · have e1 : (x - 1) * t ≤ a * t := Int.mul_le_mul_of_nonpos_right h1 (by omega)
    have e2 : a * t ≤ 0 := Int.mul_nonpos_of_nonneg_of_nonpos h0 (by omega)
    split <;> omega
  · have e1 : a * t ≤ (x - 1) * t := Int.mul_le_mul_of_nonneg_right h1 ht
    have e2 : 0 ≤ a * t := Int.mul_nonneg h0 ht
    split <;> omega
theorem ofs_between (d s p : List Int) (hi : inb d p = true) : low d s ≤ ofs p s ∧ ofs p s ≤ hgh d s := by
  induction d generalizing s p with
  | nil => cases p <;> simp_all [inb, ofs, low, hgh]
  | cons x d ih =>
    cases p with
    | nil => simp [inb] at hi
    | cons a p =>
      simp only [inb, Bool.and_eq_true, decide_eq_true_eq] at hi
      cases s with
      | nil => simp [ofs, low, hgh]
      | cons t s =>
        obtain ⟨i1, i2⟩ := ih s p hi.2
        obtain ⟨j1, j2⟩ := mul_between (t := t) hi.1.1 (show a ≤ x - 1 by omega)
        simp only [ofs, low, hgh]
        omega
/-- The place of the lowest cell, and that of the highest one. -/
def lop : List Int → List Int → List Int
  | x :: d, t :: s => (if (x - 1) * t < 0 then x - 1 else 0) :: lop d s
  | _ :: d, [] => 0 :: lop d []
  | [], _ => []
def hip : List Int → List Int → List Int
  | x :: d, t :: s => (if (x - 1) * t < 0 then 0 else x - 1) :: hip d s
  | _ :: d, [] => 0 :: hip d []
  | [], _ => []
theorem lop_ok (d s : List Int) (h : ∀ x ∈ d, 1 ≤ x) : inb d (lop d s) = true ∧ ofs (lop d s) s = low d s := by
  induction d generalizing s with
  | nil => simp [lop, inb, ofs, low]
  | cons x d ih =>
    have hx := h x (by simp)
    cases s with
    | nil =>
      obtain ⟨i1, _⟩ := ih [] (fun y hy => h y (by simp [hy]))
      refine ⟨?_, by simp [lop, ofs, low]⟩
      simp [lop, inb, i1]; omega
    | cons t s =>
      obtain ⟨i1, i2⟩ := ih s (fun y hy => h y (by simp [hy]))
      simp only [lop, inb, ofs, low, i1, i2, Bool.and_true, Bool.and_eq_true, decide_eq_true_eq]
      split
      · exact ⟨⟨by omega, by omega⟩, rfl⟩
      · exact ⟨⟨by omega, by omega⟩, by simp⟩
theorem hip_ok (d s : List Int) (h : ∀ x ∈ d, 1 ≤ x) : inb d (hip d s) = true ∧ ofs (hip d s) s = hgh d s := by
  induction d generalizing s with
  | nil => simp [hip, inb, ofs, hgh]
  | cons x d ih =>
    have hx := h x (by simp)
    cases s with
    | nil =>
      obtain ⟨i1, _⟩ := ih [] (fun y hy => h y (by simp [hy]))
      refine ⟨?_, by simp [hip, ofs, hgh]⟩
      simp [hip, inb, i1]; omega
    | cons t s =>
      obtain ⟨i1, i2⟩ := ih s (fun y hy => h y (by simp [hy]))
      simp only [hip, inb, ofs, hgh, i1, i2, Bool.and_true, Bool.and_eq_true, decide_eq_true_eq]
      split
      · exact ⟨⟨by omega, by omega⟩, by simp⟩
      · exact ⟨⟨by omega, by omega⟩, rfl⟩
/-- All cells lie in the room just where the lowest and the highest do. -/
theorem range_iff {d : List Int} (h : chk d = 0) (o room : Int) (s : List Int) : (∀ p ∈ alls d, 0 ≤ o + ofs p s ∧ o + ofs p s < room) ↔ 0 ≤ o + low d s ∧ o + hgh d s < room := by
  have h1 := (chk_ok h).2.1
  constructor
  · intro ha
    obtain ⟨l1, l2⟩ := lop_ok d s h1
    obtain ⟨u1, u2⟩ := hip_ok d s h1
    have a1 := ha _ ((mem_alls h).2 l1)
    have a2 := ha _ ((mem_alls h).2 u1)
    rw [l2] at a1; rw [u2] at a2
    exact ⟨a1.1, a2.2⟩
  · rintro ⟨hl, hh⟩ p hp
    obtain ⟨i1, i2⟩ := ofs_between d s p ((mem_alls h).1 hp)
    omega
theorem rgt_iff {o : Int} {d s : List Int} {room : Int} (hv : vok o d s room) : rgt o d s room = true ↔ ∀ p ∈ alls d, 0 ≤ o + ofs p s ∧ o + ofs p s < room := by
  rw [range_iff hv.1]
  unfold rgt
  simp [hv]
theorem rgt_ok {o : Int} {d s : List Int} {room : Int} (h : rgt o d s room = true) : vok o d s room ∧ 0 ≤ o + low d s ∧ o + hgh d s < room := by
  unfold rgt at h
  simpa [and_assoc] using h
theorem sok_get {r : Int} {d s : List Int} (h : sok r d s = true) : ∀ i, (hd : i < d.length) → (hs : i < s.length) → d[i] ≤ 1 ∨ (-r < s[i] ∧ s[i] < r) := by
  induction d generalizing s with
  | nil => intro i hd; simp at hd
  | cons x d ih =>
    cases s with
    | nil => intro i _ hs; simp at hs
    | cons t s =>
      simp only [sok, Bool.and_eq_true, Bool.or_eq_true, decide_eq_true_eq] at h
      intro i hd hs
      cases i with
      | zero => exact h.1
      | succ i => exact ih h.2 i (by simpa using hd) (by simpa using hs)
theorem cls_ok {o : Int} {d s : List Int} {room : Int} (h : rgt o d s room = true) : cls o d s room = (alls d).map fun p => o + ofs p s := by unfold cls; rw [if_pos h]
theorem cls_none {o : Int} {d s : List Int} {room : Int} (h : ¬ rgt o d s room = true) : cls o d s room = [] := by unfold cls; rw [if_neg h]
theorem cls_length (o : Int) (d s : List Int) (room : Int) : ((cls o d s room).length : Int) = if rgt o d s room = true then cnt d else 0 := by
  unfold cls
  split
  · rw [List.length_map, alls_length]
  · rfl
theorem cls_get {o : Int} {d s : List Int} {room : Int} (h : rgt o d s room = true) (n : Nat) (hn : n < (cls o d s room).length) : (cls o d s room)[n] = o + ofs (dig d (n : Int)) s := by
  have e := cls_ok h
  have hn' : n < (alls d).length := by rw [e, List.length_map] at hn; exact hn
  have : (cls o d s room)[n] = ((alls d).map fun p => o + ofs p s)[n]'(by rw [List.length_map]; exact hn') := by simp only [e]
  rw [this, List.getElem_map, alls_get d n hn']
theorem ofs_dig0 (d s : List Int) (h : ∀ x ∈ d, 1 ≤ x) : ofs (dig d 0) s = 0 := by
  induction d generalizing s with
  | nil => simp [dig, ofs]
  | cons x d ih =>
    cases s with
    | nil => simp [ofs]
    | cons t s => simp [dig, ofs, ih s (fun y hy => h y (by simp [hy]))]
theorem dig_mod (d : List Int) (h : ∀ x ∈ d, 1 ≤ x) (n : Int) : dig d n = dig d (n % prod d) := by
  have := dig_add d h (n / prod d) (n % prod d)
  rw [Int.mul_comm, Int.mul_ediv_add_emod] at this
  exact this
theorem rws_iff (d s : List Int) (h : ∀ x ∈ d, 1 ≤ x) (hl : s.length = d.length) : rws d s = true ↔ ∀ n : Int, 0 ≤ n → n < prod d → ofs (dig d n) s = n := by
  induction d generalizing s with
  | nil =>
    cases s with
    | nil =>
      simp only [rws, true_iff]
      intro n h0 h1
      simp only [prod] at h1
      simp [dig, ofs]; omega
    | cons t s => simp at hl
  | cons x d ih =>
    cases s with
    | nil => simp at hl
    | cons t s =>
      have hd : ∀ y ∈ d, 1 ≤ y := fun y hy => h y (by simp [hy])
      have hx := h x (by simp)
      have hp := prod_pos d hd
      have ih := ih s hd (by simpa using hl)
      simp only [rws, Bool.and_eq_true, Bool.or_eq_true, decide_eq_true_eq]
      constructor
      · rintro ⟨hr, ht⟩ n h0 h1
        simp only [prod] at h1
        have hr := ih.1 hr
        simp only [dig, ofs]
        rw [dig_mod d hd n, hr _ (Int.emod_nonneg _ (by omega)) (Int.emod_lt_of_pos _ (by omega))]
        have hq : n / prod d < x := Int.ediv_lt_of_lt_mul (by omega) h1
        have hq0 : 0 ≤ n / prod d := Int.ediv_nonneg h0 (by omega)
        rw [Int.emod_eq_of_lt hq0 hq]
        have hdm := Int.mul_ediv_add_emod n (prod d)
        rcases ht with ht | ht
        · have : n / prod d = 0 := by omega
          rw [this] at hdm ⊢; omega
        · rw [ht, Int.mul_comm]; omega
      · intro ha
        have hx1 : prod (x :: d) = x * prod d := rfl
        have hle : 1 * prod d ≤ x * prod d := Int.mul_le_mul_of_nonneg_right hx (by omega)
        refine ⟨ih.2 (fun n h0 h1 => ?_), ?_⟩
        · have := ha n h0 (by rw [hx1]; omega)
          simp only [dig, ofs] at this
          rw [Int.ediv_eq_zero_of_lt h0 h1, Int.zero_emod, Int.zero_mul, Int.zero_add] at this
          exact this
        · rcases Int.lt_or_le 1 x with hx2 | hx2
          · right
            have hle2 : 2 * prod d ≤ x * prod d := Int.mul_le_mul_of_nonneg_right (by omega) (by omega)
            have := ha (prod d) (by omega) (by rw [hx1]; omega)
            simp only [dig, ofs] at this
            rw [Int.ediv_self (by omega), Int.emod_eq_of_lt (by omega) hx2, Int.one_mul] at this
            have e := dig_mod d hd (prod d)
            rw [Int.emod_self] at e
            rw [e, ofs_dig0 d s hd] at this
            omega
          · left; exact hx2
theorem row_iff (l : List Int) : row l = true ↔ 0 < l.length ∧ ∀ i, (h : i < l.length) → l[i] = l[0] + (i : Int) := by
  cases l with
  | nil => simp [row]
  | cons a l =>
    simp only [row, decide_eq_true_eq]
    constructor
    · intro h
      refine ⟨by simp, fun i hi => ?_⟩
      have : (a :: l)[i]? = ((List.range (l.length + 1)).map fun i : Nat => a + (i : Int))[i]? := by rw [← h]
      rw [List.getElem?_eq_getElem hi, List.getElem?_map, List.getElem?_range (by simpa using hi)] at this
      simpa using this
    · rintro ⟨_, h⟩
      apply List.ext_getElem
      · simp
      · intro i h1 h2
        rw [h i h1]; simp
theorem rws_row {o : Int} {d s : List Int} (h : rgt o d s 64 = true) : rws d s = row (cls o d s 64) := by
  obtain ⟨hv, _, _⟩ := rgt_ok h
  obtain ⟨h6, h1, h2⟩ := chk_ok hv.1
  have hlen := cls_length o d s 64
  rw [if_pos h, (cnt_ok hv.1).1] at hlen
  have hp := prod_pos d h1
  have key : rws d s = true ↔ row (cls o d s 64) = true := by
    rw [rws_iff d s h1 hv.2.1, row_iff]
    constructor
    · intro ha
      refine ⟨by omega, fun i hi => ?_⟩
      rw [cls_get h, cls_get h, ha _ (by omega) (by omega), show (((0 : Nat) : Int)) = 0 from rfl, ofs_dig0 d s h1]
      omega
    · rintro ⟨_, ha⟩ n h0 hn
      obtain ⟨m, rfl⟩ := Int.eq_ofNat_of_zero_le h0
      have := ha m (by omega)
      rw [cls_get h, cls_get h, show (((0 : Nat) : Int)) = 0 from rfl, ofs_dig0 d s h1] at this
      omega
  rcases hb : rws d s with _ | _ <;> rcases hc : row (cls o d s 64) with _ | _ <;> simp_all
theorem stp_low (d : List Int) (h : ∀ x ∈ d, 1 ≤ x) : low d (stp d) = 0 ∧ hgh d (stp d) = prod d - 1 ∧ rws d (stp d) = true := by
  induction d with
  | nil => simp [low, hgh, rws, prod]
  | cons x d ih =>
    obtain ⟨i1, i2, i3⟩ := ih (fun y hy => h y (by simp [hy]))
    have hx := h x (by simp)
    have hp := prod_pos d (fun y hy => h y (by simp [hy]))
    have h0 : 0 ≤ (x - 1) * prod d := Int.mul_nonneg (by omega) (by omega)
    simp only [stp, low, hgh, rws, prod, i1, i2, i3]
    rw [if_neg (by omega), if_neg (by omega)]
    refine ⟨rfl, ?_, by simp⟩
    rw [Int.sub_mul]; omega
theorem stp_sok (d : List Int) (h : ∀ x ∈ d, 1 ≤ x) (hp64 : prod d ≤ 64) : sok 64 d (stp d) = true := by
  induction d with
  | nil => rfl
  | cons x d ih =>
    have hx := h x (by simp)
    have hp := prod_pos d (fun y hy => h y (by simp [hy]))
    simp only [prod] at hp64
    have hle : 1 * prod d ≤ x * prod d := Int.mul_le_mul_of_nonneg_right hx (by omega)
    simp only [stp, sok, Bool.and_eq_true, Bool.or_eq_true, decide_eq_true_eq]
    refine ⟨?_, ih (fun y hy => h y (by simp [hy])) (by omega)⟩
    rcases Int.lt_or_le 1 x with hx2 | hx2
    · have hle2 : 2 * prod d ≤ x * prod d := Int.mul_le_mul_of_nonneg_right (by omega) (by omega)
      right; omega
    · left; exact hx2
theorem whole_rgt {d : List Int} (h : chk d = 0) : rgt 0 d (stp d) 64 = true := by
  obtain ⟨h6, h1, h2⟩ := chk_ok h
  obtain ⟨i1, i2, i3⟩ := stp_low d h1
  unfold rgt vok
  simp [h, stp_length, stp_sok d h1 h2, i1, i2]
  omega
theorem whole_row {d : List Int} (h : chk d = 0) : row (cls 0 d (stp d) 64) = true := by
  rw [← rws_row (whole_rgt h)]; exact (stp_low d (chk_ok h).2.1).2.2
/-- Cells in a room say that the steps are such as may be. -/
theorem sok_of_cells (o r : Int) (d s : List Int) (h : ∀ x ∈ d, 1 ≤ x) (hl : s.length = d.length) (hc : ∀ p, inb d p = true → 0 ≤ o + ofs p s ∧ o + ofs p s < r) : sok r d s = true := by
  induction d generalizing s with
  | nil => cases s <;> rfl
  | cons x d ih =>
    cases s with
    | nil => simp at hl
    | cons t s =>
      have hx := h x (by simp)
      have hd : ∀ y ∈ d, 1 ≤ y := fun y hy => h y (by simp [hy])
      simp only [sok, Bool.and_eq_true, Bool.or_eq_true, decide_eq_true_eq]
      constructor
      · rcases Int.lt_or_le 1 x with hx2 | hx2
        · right
          have a0 := hc (0 :: dig d 0) (by simp [inb, inb_dig d hd 0]; omega)
          have a1 := hc (1 :: dig d 0) (by simp [inb, inb_dig d hd 0]; omega)
          simp only [ofs, ofs_dig0 d s hd] at a0 a1
          omega
        · left; exact hx2
      · refine ih s hd (by simpa using hl) (fun p hp => ?_)
        have := hc (0 :: p) (by simp [inb, hp]; omega)
        simp only [ofs, Int.zero_mul, Int.zero_add] at this
        exact this
/-- A view is right just where its cells lie in the room. -/
theorem rgt_cells (o : Int) (d s : List Int) (r : Int) : rgt o d s r = true ↔ chk d = 0 ∧ s.length = d.length ∧ r ≤ 64 ∧ ∀ p, inb d p = true → 0 ≤ o + ofs p s ∧ o + ofs p s < r := by
  constructor
  · intro h
    obtain ⟨hv, _, _⟩ := rgt_ok h
    exact ⟨hv.1, hv.2.1, hv.2.2.1, fun p hp => (rgt_iff hv).1 h p ((mem_alls hv.1).2 hp)⟩
  · rintro ⟨h1, h2, h3, h4⟩
    have hd := (chk_ok h1).2.1
    have h0 := h4 (dig d 0) (inb_dig d hd 0)
    rw [ofs_dig0 d s hd, Int.add_zero] at h0
    have hv : vok o d s r := ⟨h1, h2, h3, h0.1, h0.2, sok_of_cells o r d s hd h2 h4⟩
    exact (rgt_iff hv).2 (fun p hp => h4 p ((mem_alls h1).1 hp))
/-- A view whose elements are elements of another one. -/
theorem rgt_sub {o o' : Int} {d d' s s' : List Int} {r : Int} (h : rgt o d s r = true) (hc : chk d' = 0) (hl : s'.length = d'.length) (hp : ∀ p, inb d' p = true → ∃ q, inb d q = true ∧ o' + ofs p s' = o + ofs q s) : rgt o' d' s' r = true := by
  obtain ⟨_, _, h3, h4⟩ := (rgt_cells _ _ _ _).1 h
  refine (rgt_cells _ _ _ _).2 ⟨hc, hl, h3, fun p hi => ?_⟩
  obtain ⟨q, hq, e⟩ := hp p hi
  rw [e]; exact h4 q hq
theorem ofs_set (p s : List Int) (i : Nat) (h : i < p.length) (hs : i < s.length) (a t : Int) : ofs (p.set i a) (s.set i t) = ofs p s - p[i] * s[i] + a * t := by
  induction p generalizing s i with
  | nil => simp at h
  | cons b p ih =>
    cases s with
    | nil => simp at hs
    | cons u s =>
      cases i with
      | zero => simp [ofs]; omega
      | succ i =>
        have := ih s i (by simpa using h) (by simpa using hs)
        simp only [List.set_cons_succ, ofs, List.getElem_cons_succ, this]
        omega
theorem inb_get {d p : List Int} (hi : inb d p = true) (i : Nat) (h : i < d.length) (hp : i < p.length) : 0 ≤ p[i] ∧ p[i] < d[i] := by
  induction d generalizing p i with
  | nil => simp at h
  | cons x d ih =>
    cases p with
    | nil => simp [inb] at hi
    | cons b p =>
      simp only [inb, Bool.and_eq_true, decide_eq_true_eq] at hi
      cases i with
      | zero => exact hi.1
      | succ i => exact ih hi.2 i (by simpa using h) (by simpa using hp)
/-- Flip: offset, dims, steps, error. -/
def flp (o : Int) (d s : List Int) (a : Int) : Int × List Int × List Int × Int :=
  if rgt o d s 64 = true then (if a < 0 ∨ (d.length : Int) ≤ a then (0, [], [], 10) else if 1 < at0 d a then (o + (at0 d a - 1) * at0 s a, d, s.set a.toNat (-(at0 s a)), 0) else (o, d, s, 0)) else (0, [], [], 1)
theorem flp_ofs (o : Int) (d s p : List Int) (i : Nat) (h : i < d.length) (hs : s.length = d.length) (hi : inb d p = true) :
    o + (at0 d (i : Int) - 1) * at0 s (i : Int) + ofs p (s.set i (-(at0 s (i : Int)))) = o + ofs (p.set i (at0 d (i : Int) - 1 - at0 p (i : Int))) s := by
  have hp := inb_length hi
  have e1 := ofs_set p s i (by omega) (by omega) p[i] (-(at0 s (i : Int)))
  have e2 := ofs_set p s i (by omega) (by omega) (at0 d (i : Int) - 1 - at0 p (i : Int)) s[i]
  rw [List.set_getElem_self] at e1 e2
  have a1 : at0 s (i : Int) = s[i] := by simp [at0, List.getD_eq_getElem?_getD, List.getElem?_eq_getElem (show i < s.length by omega)]
  have a2 : at0 p (i : Int) = p[i] := by simp [at0, List.getD_eq_getElem?_getD, List.getElem?_eq_getElem (show i < p.length by omega)]
  rw [e1, e2, a1, a2, Int.sub_mul (at0 d (i : Int) - 1), Int.mul_neg]
  omega
def pmt (o : Int) (d s axes : List Int) : Int × List Int × List Int × Int :=
  if rgt o d s 64 = true then (if (perm d axes).2 = 0 then (o, prm d axes, prm s axes, 0) else (0, [], [], (perm d axes).2)) else (0, [], [], 1)
theorem at0_get (l : List Int) (i : Nat) (h : i < l.length) : at0 l (i : Int) = l[i] := by
  simp [at0, List.getD_eq_getElem?_getD, List.getElem?_eq_getElem h]
theorem at0_set_same (l : List Int) (i : Nat) (h : i < l.length) (x : Int) : at0 (l.set i x) (i : Int) = x := by
  rw [at0_get _ _ (by simpa using h), List.getElem_set_self]
theorem at0_set_other (l : List Int) (i j : Nat) (h : i ≠ j) (x : Int) : at0 (l.set i x) (j : Int) = at0 l (j : Int) := by
  simp [at0, List.getD_eq_getElem?_getD, List.getElem?_set_ne h]
theorem at0_ext {a b : List Int} (hl : a.length = b.length) (h : ∀ j : Nat, j < a.length → at0 a (j : Int) = at0 b (j : Int)) : a = b := by
  apply List.ext_getElem hl
  intro j h1 h2
  have := h j h1
  rwa [at0_get _ _ h1, at0_get _ _ h2] at this
theorem prm_length (d l : List Int) : (prm d l).length = l.length := by simp [prm]
theorem at0_prm (d l : List Int) (k : Nat) (h : k < l.length) : at0 (prm d l) (k : Int) = at0 d (at0 l (k : Int)) := by
  rw [at0_get _ _ (by rw [prm_length]; exact h), at0_get _ _ h]
  simp [prm]
theorem inb_iff (d p : List Int) : inb d p = true ↔ p.length = d.length ∧ ∀ j : Nat, j < d.length → 0 ≤ at0 p (j : Int) ∧ at0 p (j : Int) < at0 d (j : Int) := by
  constructor
  · intro h
    have hl := inb_length h
    refine ⟨hl, fun j hj => ?_⟩
    rw [at0_get p j (by omega), at0_get d j hj]
    exact inb_get h j hj (by omega)
  · rintro ⟨hl, h⟩
    induction d generalizing p with
    | nil => cases p <;> simp_all [inb]
    | cons x d ih =>
      cases p with
      | nil => simp at hl
      | cons a p =>
        have h0 := h 0 (by simp)
        simp [at0] at h0
        simp only [inb, Bool.and_eq_true, decide_eq_true_eq]
        refine ⟨h0, ih p (by simpa using hl) (fun j hj => ?_)⟩
        have := h (j + 1) (by simpa using hj)
        simpa [at0] using this
/-- A permutation of the axes. -/
structure Pm (l : List Int) : Prop where
  nodup : l.Nodup
  range : ∀ a ∈ l, 0 ≤ a ∧ a < (l.length : Int)
  all : ∀ j : Nat, j < l.length → (j : Int) ∈ l
theorem pm_of {d l : List Int} (h : (axs d.length l).2 = 0) (hl : l.length = d.length) : Pm l := by
  have hv := axs_axv h
  have hp := axes_perm h hl
  refine ⟨(axv_nodup _ _ _ hv).1, fun a ha => ?_, fun j hj => ?_⟩
  · have := axv_all _ _ _ hv a ha; rw [hl]; exact this
  · rw [hp.mem_iff]
    simp only [List.mem_map, List.mem_range]
    exact ⟨j, by omega, rfl⟩
theorem pm_perm {l : List Int} (h : Pm l) : l.Perm ((List.range l.length).map fun i : Nat => (i : Int)) :=
  perm_of_sub h.nodup (fun x hx => by
    obtain ⟨h0, h1⟩ := h.range x hx
    simp only [List.mem_map, List.mem_range]
    exact ⟨x.toNat, by omega, by omega⟩) (by simp)
/-- Axes put back: one after the other. -/
def bks (n : Nat) : List Int → Nat → List Int → List Int
  | [], _, out => out
  | a :: l, i, out => bks n l (i + 1) (if 0 ≤ a ∧ a < (n : Int) then out.set a.toNat (i : Int) else out)
def bk (l : List Int) : List Int := bks l.length l 0 (List.replicate l.length 0)
theorem bks_length (n : Nat) (l : List Int) (i : Nat) (out : List Int) : (bks n l i out).length = out.length := by
  induction l generalizing i out with
  | nil => rfl
  | cons a l ih => rw [bks, ih]; split <;> simp
theorem bk_length (l : List Int) : (bk l).length = l.length := by unfold bk; rw [bks_length]; simp
theorem bks_other (n : Nat) (l : List Int) (i : Nat) (out : List Int) (j : Nat) (h : (j : Int) ∉ l) : at0 (bks n l i out) (j : Int) = at0 out (j : Int) := by
  induction l generalizing i out with
  | nil => rfl
  | cons a l ih =>
    rw [bks, ih _ _ (fun hm => h (by simp [hm]))]
    split
    · rename_i ha
      exact at0_set_other _ _ _ (fun e => h (by simp; omega)) _
    · rfl
theorem bks_at (n : Nat) (l : List Int) (hd : l.Nodup) (hr : ∀ a ∈ l, 0 ≤ a ∧ a < (n : Int)) (i : Nat) (out : List Int) (ho : out.length = n) : ∀ m, (h : m < l.length) → at0 (bks n l i out) l[m] = ((i + m : Nat) : Int) := by
  induction l generalizing i out with
  | nil => intro m h; simp at h
  | cons a l ih =>
    rw [List.nodup_cons] at hd
    have ha := hr a (by simp)
    intro m h
    rw [bks, if_pos ha]
    cases m with
    | zero =>
      simp only [List.getElem_cons_zero, Nat.add_zero]
      obtain ⟨j, rfl⟩ := Int.eq_ofNat_of_zero_le ha.1
      rw [bks_other _ _ _ _ _ hd.1, Int.toNat_natCast, at0_set_same _ _ (by omega)]
    | succ m =>
      rw [List.getElem_cons_succ, ih hd.2 (fun x hx => hr x (by simp [hx])) (i + 1) _ (by simp [ho]) m (by simpa using h)]
      rw [show i + 1 + m = i + (m + 1) by omega]
theorem bk_at {l : List Int} (h : Pm l) (m : Nat) (hm : m < l.length) : at0 (bk l) (at0 l (m : Int)) = (m : Int) := by
  rw [at0_get l m hm]
  have := bks_at l.length l h.nodup h.range 0 (List.replicate l.length 0) (by simp) m hm
  rw [Nat.zero_add] at this
  exact this
theorem pm_back {l : List Int} (h : Pm l) (j : Nat) (hj : j < l.length) : ∃ m : Nat, m < l.length ∧ at0 l (m : Int) = (j : Int) ∧ at0 (bk l) (j : Int) = (m : Int) := by
  obtain ⟨m, hm, e⟩ := List.getElem_of_mem (h.all j hj)
  have e' : at0 l (m : Int) = (j : Int) := by rw [at0_get l m hm]; exact e
  exact ⟨m, hm, e', by rw [← e', bk_at h m hm]⟩
theorem bk_prm {l : List Int} (h : Pm l) (x : List Int) (hx : x.length = l.length) : prm (prm x (bk l)) l = x := by
  apply at0_ext (by rw [prm_length, hx])
  intro m hm
  rw [prm_length] at hm
  have hr := h.range (l[m]) (List.getElem_mem hm)
  rw [at0_prm _ _ _ hm, at0_get l m hm]
  obtain ⟨j, hj⟩ := Int.eq_ofNat_of_zero_le hr.1
  have hjl : j < l.length := by omega
  rw [hj, at0_prm _ _ _ (by rw [bk_length]; exact hjl)]
  have := bk_at h m hm
  rw [at0_get l m hm, hj] at this
  rw [this]
theorem ofs_sum (p s : List Int) (h : p.length = s.length) : ofs p s = ((List.range p.length).map fun j : Nat => at0 p (j : Int) * at0 s (j : Int)).sum := by
  induction p generalizing s with
  | nil => simp [ofs]
  | cons a p ih =>
    cases s with
    | nil => simp at h
    | cons t s =>
      rw [ofs, ih s (by simpa using h), List.length_cons, List.range_succ_eq_map, List.map_cons, List.map_map, List.sum_cons]
      congr 1
theorem sum_perm {a b : List Int} (h : a.Perm b) : a.sum = b.sum := by
  induction h with
  | nil => rfl
  | cons x _ ih => simp [ih]
  | swap x y l => simp only [List.sum_cons]; omega
  | trans _ _ ih1 ih2 => rw [ih1, ih2]
theorem ofs_prm {l : List Int} (h : Pm l) (p s : List Int) (hp : p.length = l.length) (hs : s.length = l.length) : ofs (prm p l) (prm s l) = ofs p s := by
  rw [ofs_sum _ _ (by rw [prm_length, prm_length]), ofs_sum _ _ (by omega), prm_length, hp]
  have e1 : ((List.range l.length).map fun j : Nat => at0 (prm p l) (j : Int) * at0 (prm s l) (j : Int)) = l.map fun a => at0 p a * at0 s a := by
    apply List.ext_getElem (by simp)
    intro j h1 h2
    rw [List.length_map] at h2
    simp only [List.getElem_map, List.getElem_range]
    rw [at0_prm _ _ _ h2, at0_prm _ _ _ h2, at0_get l j h2]
  rw [e1, sum_perm ((pm_perm h).map fun a => at0 p a * at0 s a), List.map_map]
  rfl
theorem inb_prm {l : List Int} (h : Pm l) (d q : List Int) (hd : d.length = l.length) (hi : inb (prm d l) q = true) : inb d (prm q (bk l)) = true := by
  obtain ⟨hl, hq⟩ := (inb_iff _ _).1 hi
  rw [prm_length] at hl hq
  refine (inb_iff _ _).2 ⟨by rw [prm_length, bk_length, hd], fun j hj => ?_⟩
  obtain ⟨m, hm, e1, e2⟩ := pm_back h j (by omega)
  have := hq m hm
  rw [at0_prm _ _ _ hm, e1] at this
  rw [at0_prm _ _ _ (by rw [bk_length]; omega), e2]
  exact this
theorem pmt_ofs {l : List Int} (h : Pm l) (s q : List Int) (hs : s.length = l.length) (hq : q.length = l.length) : ofs q (prm s l) = ofs (prm q (bk l)) s := by
  have := ofs_prm h (prm q (bk l)) s (by rw [prm_length, bk_length]) hs
  rw [bk_prm h q hq] at this
  exact this
theorem perm_ok {d l : List Int} (h : (perm d l).2 = 0) : chk d = 0 ∧ Pm l ∧ l.length = d.length ∧ chk (prm d l) = 0 ∧ (perm d l).1 = prm d l := by
  unfold perm at h ⊢
  split at h
  · rename_i h1
    split at h
    · rename_i h2
      rw [if_pos h1, if_pos h2]
      exact ⟨h1, pm_of h2.2 h2.1, h2.1, chk_perm (prm_perm h2.2 h2.1) h1, rfl⟩
    · simp at h
  · rename_i h1; exact absurd h h1
def mx (a b : Int) : Int := if a < b then b else a
/-- Dims with 1 ahead, n in all. -/
def pad (n : Nat) (l : List Int) : List Int := List.replicate (n - l.length) 1 ++ l
/-- Do they go together, one by one? -/
def fitz : List Int → List Int → Bool
  | x :: a, y :: b => (x == y || x == 1 || y == 1) && fitz a b
  | _, _ => true
def mxs : List Int → List Int → List Int
  | x :: a, y :: b => mx x y :: mxs a b
  | _, _ => []
def tw (p q : List Int) : List Int × Int := if fitz p q = true then (if chk (mxs p q) = 0 then (mxs p q, 0) else ([], chk (mxs p q))) else ([], 8)
def rank2 (a b : List Int) : Nat := max a.length b.length
def two (a b : List Int) : List Int × Int :=
  if chk a = 0 then (if chk b = 0 then tw (pad (rank2 a b) a) (pad (rank2 a b) b) else ([], chk b)) else ([], chk a)
def fts (a b : List Int) : Bool := decide ((two a b).2 = 0) && decide ((two a b).1 = b)
/-- The place that is spread to one. -/
def sat : List Int → List Int → List Int
  | x :: f, v :: q => (if x = 1 then 0 else v) :: sat f q
  | _, _ => []
def srcs (a b : List Int) : List Int := if fts a b = true then (alls b).map fun p => num a (sat a (p.drop (b.length - a.length))) else []
theorem pad_length (n : Nat) (l : List Int) (h : l.length ≤ n) : (pad n l).length = n := by simp [pad]; omega
theorem pad_self (l : List Int) : pad l.length l = l := by simp [pad]
theorem mxs_length (a b : List Int) (h : a.length = b.length) : (mxs a b).length = a.length := by
  induction a generalizing b with
  | nil => cases b <;> simp [mxs]
  | cons x a ih =>
    cases b with
    | nil => simp at h
    | cons y b => simp [mxs, ih b (by simpa using h)]
theorem fitz_drop (a b : List Int) (i : Nat) (h : fitz a b = true) : fitz (a.drop i) (b.drop i) = true := by
  induction i generalizing a b with
  | zero => simpa using h
  | succ i ih =>
    cases a with
    | nil => simp [fitz]
    | cons x a =>
      cases b with
      | nil => simp [fitz]
      | cons y b =>
        simp only [fitz, Bool.and_eq_true] at h
        simpa using ih a b h.2
theorem pad_at (n : Nat) (l : List Int) (h : l.length ≤ n) (i : Nat) (hi : i < n) :
    (pad n l)[i]'(by rw [pad_length n l h]; exact hi) = if h2 : n - l.length ≤ i then l[i - (n - l.length)]'(by omega) else 1 := by
  unfold pad
  split
  · rename_i h2
    rw [List.getElem_append_right (by simpa using h2)]
    simp
  · rename_i h2
    rw [List.getElem_append_left (by simp; omega)]
    simp
/-- f is 1 or t, everywhere. -/
def sub : List Int → List Int → Bool
  | x :: f, y :: t => (x == 1 || x == y) && sub f t
  | [], [] => true
  | _, _ => false
theorem sub_iff (f t : List Int) (hl : f.length = t.length) (hf : ∀ x ∈ f, 1 ≤ x) (ht : ∀ x ∈ t, 1 ≤ x) : sub f t = true ↔ fitz f t = true ∧ mxs f t = t := by
  induction f generalizing t with
  | nil => cases t <;> simp_all [sub, fitz, mxs]
  | cons x f ih =>
    cases t with
    | nil => simp at hl
    | cons y t =>
      have h1 := hf x (by simp)
      have h2 := ht y (by simp)
      have := ih t (by simpa using hl) (fun z hz => hf z (by simp [hz])) (fun z hz => ht z (by simp [hz]))
      simp only [sub, fitz, mxs, Bool.and_eq_true, Bool.or_eq_true, beq_iff_eq, List.cons.injEq, this]
      constructor
      · rintro ⟨h | h, h3, h4⟩
        · exact ⟨⟨.inl (.inr h), h3⟩, by unfold mx; split <;> omega, h4⟩
        · exact ⟨⟨.inl (.inl h), h3⟩, by unfold mx; split <;> omega, h4⟩
      · rintro ⟨⟨h, h3⟩, h5, h4⟩
        unfold mx at h5
        refine ⟨?_, h3, h4⟩
        split at h5
        · rcases h with (h | h) | h
          · exact .inr h
          · exact .inl h
          · omega
        · exact .inr h5
theorem pad_pos (n : Nat) (l : List Int) (h : ∀ x ∈ l, 1 ≤ x) : ∀ x ∈ pad n l, 1 ≤ x := by
  intro x hx
  unfold pad at hx
  rcases List.mem_append.1 hx with hx | hx
  · have := List.eq_of_mem_replicate hx; omega
  · exact h x hx
/-- What 'fits' says. -/
theorem fts_iff (a b : List Int) : fts a b = true ↔ chk a = 0 ∧ chk b = 0 ∧ a.length ≤ b.length ∧ sub (pad b.length a) b = true := by
  unfold fts
  simp only [Bool.and_eq_true, decide_eq_true_eq]
  constructor
  · rintro ⟨h1, h2⟩
    unfold two at h1 h2
    split at h1
    · rename_i ha
      rw [if_pos ha] at h2
      split at h1
      · rename_i hb
        rw [if_pos hb] at h2
        unfold tw at h1 h2
        split at h1
        · rename_i hf
          rw [if_pos hf] at h2
          split at h1
          · rename_i hc
            rw [if_pos hc] at h2
            simp only at h2
            have hl := mxs_length (pad (rank2 a b) a) (pad (rank2 a b) b) (by rw [pad_length, pad_length] <;> unfold rank2 <;> omega)
            rw [h2, pad_length _ _ (by unfold rank2; omega)] at hl
            have hle : a.length ≤ b.length := by unfold rank2 at hl; omega
            rw [← hl, pad_self] at hf h2
            refine ⟨ha, hb, hle, (sub_iff _ _ (pad_length _ _ hle) (pad_pos _ _ (chk_ok ha).2.1) (chk_ok hb).2.1).2 ⟨hf, h2⟩⟩
          · rename_i hc; exact absurd h1 hc
        · simp at h1
      · rename_i hb; exact absurd h1 hb
    · rename_i ha; exact absurd h1 ha
  · rintro ⟨ha, hb, hle, hs⟩
    obtain ⟨s1, s2⟩ := (sub_iff _ _ (pad_length _ _ hle) (pad_pos _ _ (chk_ok ha).2.1) (chk_ok hb).2.1).1 hs
    have e : two a b = (b, 0) := by
      unfold two
      have hr : rank2 a b = b.length := by unfold rank2; omega
      rw [if_pos ha, if_pos hb, hr, pad_self]
      unfold tw
      rw [if_pos s1, s2, if_pos hb]
    rw [e]; exact ⟨rfl, rfl⟩
theorem tw_ok {p q x : List Int} (h : tw p q = (x, 0)) : fitz p q = true ∧ chk x = 0 ∧ mxs p q = x := by
  unfold tw at h
  split at h
  · rename_i hf
    split at h
    · rename_i hc
      simp only [Prod.mk.injEq, and_true] at h
      subst h
      exact ⟨hf, hc, rfl⟩
    · rename_i hc
      simp only [Prod.mk.injEq] at h
      exact absurd h.2 hc
  · simp at h
theorem two_ok {a b x : List Int} (h : two a b = (x, 0)) : chk a = 0 ∧ chk b = 0 ∧ fitz (pad (rank2 a b) a) (pad (rank2 a b) b) = true ∧ chk x = 0 ∧ mxs (pad (rank2 a b) a) (pad (rank2 a b) b) = x := by
  unfold two at h
  split at h
  · rename_i ha
    split at h
    · rename_i hb
      obtain ⟨h1, h2, h3⟩ := tw_ok h
      exact ⟨ha, hb, h1, h2, h3⟩
    · rename_i hb
      simp only [Prod.mk.injEq] at h
      exact absurd h.2 hb
  · rename_i ha
    simp only [Prod.mk.injEq] at h
    exact absurd h.2 ha
theorem sub_drop {f t : List Int} (h : sub f t = true) (i : Nat) : sub (f.drop i) (t.drop i) = true := by
  induction i generalizing f t with
  | zero => simpa using h
  | succ i ih =>
    cases f with
    | nil => cases t <;> simp_all [sub]
    | cons x f =>
      cases t with
      | nil => simp [sub] at h
      | cons y t =>
        simp only [sub, Bool.and_eq_true] at h
        simpa using ih h.2
theorem pad_drop (n : Nat) (l : List Int) : (pad n l).drop (n - l.length) = l := by
  unfold pad
  rw [List.drop_append_of_le_length (by simp)]
  simp
theorem inb_sat (f t q : List Int) (hs : sub f t = true) (hf : ∀ x ∈ f, 1 ≤ x) (hq : inb t q = true) : inb f (sat f q) = true := by
  induction f generalizing t q with
  | nil => cases t <;> cases q <;> simp_all [sub, inb, sat]
  | cons x f ih =>
    cases t with
    | nil => simp [sub] at hs
    | cons y t =>
      cases q with
      | nil => simp [inb] at hq
      | cons v q =>
        have h1 := hf x (by simp)
        simp only [sub, Bool.and_eq_true, Bool.or_eq_true, beq_iff_eq] at hs
        simp only [inb, Bool.and_eq_true, decide_eq_true_eq] at hq
        simp only [inb, sat, Bool.and_eq_true, decide_eq_true_eq]
        refine ⟨?_, ih t q hs.2 (fun z hz => hf z (by simp [hz])) hq.2⟩
        split <;> omega
/-- The elements that a map of places picks. -/
def nums (d d' : List Int) (f : List Int → List Int) : List Int := (alls d').map fun p => num d (f p)
def rsp (d to_ : List Int) : List Int × List Int × Int :=
  if chk to_ = 0 then (if cnt to_ = cnt d then (to_, (List.range (cnt d).toNat).map fun i : Nat => (i : Int), 0) else ([], [], 8)) else ([], [], chk to_)
def rpm (d axes : List Int) : List Int × List Int × Int :=
  if (perm d axes).2 = 0 then (prm d axes, nums d (prm d axes) fun q => prm q (bk axes), 0) else ([], [], (perm d axes).2)
def tkf (axis : Int) (marks p : List Int) : List Int := p.set axis.toNat (at0 marks (at0 p axis))
def rtk (d : List Int) (axis : Int) (marks : List Int) : List Int × List Int × Int :=
  if (withd d axis marks.length).2 = 0 then ((withd d axis marks.length).1, nums d (withd d axis marks.length).1 (tkf axis marks), 0) else ([], [], (withd d axis marks.length).2)
def rfl_ (d : List Int) (axis : Int) : List Int × List Int × Int :=
  if axis < 0 ∨ (d.length : Int) ≤ axis then ([], [], 10) else rtk d axis ((List.range (at0 d axis).toNat).map fun i : Nat => at0 d axis - 1 - (i : Int))
/-- The marks of a slice; none where one is out of range. -/
def mrk (x start step : Int) (n : Nat) : Option (List Int) :=
  if (List.range n).all (fun i : Nat => decide (0 ≤ start + (i : Int) * step) && decide (start + (i : Int) * step < x)) = true then some ((List.range n).map fun i : Nat => start + (i : Int) * step) else none
def rsl (d : List Int) (axis start count step : Int) : List Int × List Int × Int :=
  if axis < 0 ∨ (d.length : Int) ≤ axis then ([], [], 10)
  else if count < 1 ∨ at0 d axis < count ∨ start < 0 ∨ at0 d axis ≤ start ∨ (1 < count ∧ (step = 0 ∨ 64 < step ∨ step < -64)) then ([], [], 11)
  else match mrk (at0 d axis) start step count.toNat with
    | some m => rtk d axis m
    | none => ([], [], 11)
def rex (d to_ : List Int) : List Int × List Int × Int :=
  if chk to_ = 0 then (if fts d to_ = true then (to_, srcs d to_, 0) else ([], [], 8)) else ([], [], chk to_)
def vrs (o : Int) (d s to_ : List Int) : Int × List Int × List Int × Int :=
  if rgt o d s 64 = true then (if chk to_ = 0 then (if cnt to_ = cnt d then (if row (cls o d s 64) = true then (o, to_, stp to_, 0) else (0, [], [], 19)) else (0, [], [], 8)) else (0, [], [], chk to_)) else (0, [], [], 1)
def vsl (o : Int) (d s : List Int) (a start count step : Int) : Int × List Int × List Int × Int :=
  if rgt o d s 64 = true then (if a < 0 ∨ (d.length : Int) ≤ a then (0, [], [], 10)
    else if start < 0 ∨ at0 d a ≤ start ∨ count < 1 ∨ at0 d a < count ∨ (1 < count ∧ (step = 0 ∨ at0 d a ≤ step ∨ step ≤ -(at0 d a) ∨ start + (count - 1) * step < 0 ∨ at0 d a ≤ start + (count - 1) * step)) then (0, [], [], 11)
    else (if 0 < start then o + start * at0 s a else o, d.set a.toNat count, if count = 1 then s.set a.toNat 0 else s.set a.toNat (at0 s a * step), 0)) else (0, [], [], 1)
/-- Steps of a view that is spread. -/
def exs : List Int → List Int → List Int
  | x :: d, t :: s => (if 1 < x then t else 0) :: exs d s
  | _, _ => []
def vex (o : Int) (d s to_ : List Int) : Int × List Int × List Int × Int :=
  if rgt o d s 64 = true then (if chk to_ = 0 then (if fts d to_ = true then (o, to_, List.replicate (to_.length - d.length) 0 ++ exs d s, 0) else (0, [], [], 8)) else (0, [], [], chk to_)) else (0, [], [], 1)
theorem exs_length (d s : List Int) (h : s.length = d.length) : (exs d s).length = d.length := by
  induction d generalizing s with
  | nil => cases s <;> simp_all [exs]
  | cons x d ih =>
    cases s with
    | nil => simp at h
    | cons t s => simp [exs, ih s (by simpa using h)]
theorem exs_at (d s : List Int) (h : s.length = d.length) (i : Nat) (hi : i < d.length) : at0 (exs d s) (i : Int) = if 1 < at0 d (i : Int) then at0 s (i : Int) else 0 := by
  induction d generalizing s i with
  | nil => simp at hi
  | cons x d ih =>
    cases s with
    | nil => simp at h
    | cons t s =>
      cases i with
      | zero => simp [exs, at0]
      | succ i =>
        have := ih s (by simpa using h) i (by simpa using hi)
        simpa [exs, at0] using this
/-- The steps, i of them set. -/
def est (n : Nat) (d s : List Int) (i : Nat) : List Int := List.replicate (n - d.length) 0 ++ ((exs d s).take i ++ List.replicate (d.length - i) 0)
theorem est_length (n : Nat) (d s : List Int) (h : s.length = d.length) (hn : d.length ≤ n) (i : Nat) (hi : i ≤ d.length) : (est n d s i).length = n := by
  simp [est, exs_length d s h]; omega
theorem est_succ (n : Nat) (d s : List Int) (h : s.length = d.length) (i : Nat) (hi : i < d.length) : est n d s (i + 1) = (est n d s i).set (n - d.length + i) (at0 (exs d s) (i : Int)) := by
  have hl := exs_length d s h
  unfold est
  rw [List.set_append_right _ _ (by simp), List.length_replicate, show n - d.length + i - (n - d.length) = i by omega]
  rw [List.set_append_right _ _ (by rw [List.length_take]; omega), List.length_take, Nat.min_eq_left (by omega), Nat.sub_self]
  rw [show d.length - i = (d.length - (i + 1)) + 1 by omega, List.replicate_succ, List.set_cons_zero]
  rw [List.take_succ_eq_append_getElem (by omega), at0_get _ _ (by omega), List.append_assoc, List.singleton_append]
theorem est_keep (n : Nat) (d s : List Int) (h : s.length = d.length) (i : Nat) (hi : i < d.length) (h1 : ¬ 1 < at0 d (i : Int)) : est n d s (i + 1) = est n d s i := by
  have hl := exs_length d s h
  have he := exs_at d s h i hi
  rw [if_neg h1, at0_get _ _ (by omega)] at he
  unfold est
  rw [List.take_succ_eq_append_getElem (by omega), he, List.append_assoc, List.singleton_append, ← List.replicate_succ, show d.length - (i + 1) + 1 = d.length - i by omega]
/-- A map of places under which a view's elements are elements of another one. -/
def Pk (o : Int) (d s : List Int) (o' : Int) (d' s' : List Int) (f : List Int → List Int) : Prop := ∀ p, inb d' p = true → inb d (f p) = true ∧ o' + ofs p s' = o + ofs (f p) s
theorem pk_rgt {o o' : Int} {d s d' s' : List Int} {f : List Int → List Int} {r : Int} (h : rgt o d s r = true) (hc : chk d' = 0) (hl : s'.length = d'.length) (hp : Pk o d s o' d' s' f) : rgt o' d' s' r = true :=
  rgt_sub h hc hl (fun p hi => ⟨f p, hp p hi⟩)
theorem cls_at {o : Int} {d s : List Int} (h : rgt o d s 64 = true) (p : List Int) (hp : inb d p = true) : 0 ≤ num d p ∧ num d p < ((cls o d s 64).length : Int) ∧ at0 (cls o d s 64) (num d p) = o + ofs p s := by
  have hv := (rgt_ok h).1
  have h1 := (chk_ok hv.1).2.1
  obtain ⟨a1, a2⟩ := num_lt d p h1 hp
  have hl := cls_length o d s 64
  rw [if_pos h, (cnt_ok hv.1).1] at hl
  obtain ⟨m, hm⟩ := Int.eq_ofNat_of_zero_le a1
  refine ⟨a1, by omega, ?_⟩
  rw [hm, at0_get _ _ (by omega), cls_get h, ← hm, dig_num d p h1 hp]
theorem pk_cls {o o' : Int} {d s d' s' : List Int} {f : List Int → List Int} (h : rgt o d s 64 = true) (hc : chk d' = 0) (hl : s'.length = d'.length) (hp : Pk o d s o' d' s' f) :
    cls o' d' s' 64 = (nums d d' f).map (fun a => at0 (cls o d s 64) a) := by
  rw [cls_ok (pk_rgt h hc hl hp)]
  unfold nums
  rw [List.map_map]
  apply List.map_congr_left
  intro p hpm
  obtain ⟨q1, q2⟩ := hp p ((mem_alls hc).1 hpm)
  simp only [Function.comp]
  rw [(cls_at h (f p) q1).2.2, q2]
theorem pk_nums {o o' : Int} {d s d' s' : List Int} {f : List Int → List Int} (h : rgt o d s 64 = true) (hc : chk d' = 0) (hp : Pk o d s o' d' s' f) :
    (nums d d' f).length ≤ 64 ∧ ∀ a ∈ nums d d' f, 0 ≤ a ∧ a < ((cls o d s 64).length : Int) := by
  have := alls_length d'
  have := (cnt_ok hc).2.2
  refine ⟨by unfold nums; rw [List.length_map]; omega, fun a ha => ?_⟩
  unfold nums at ha
  rw [List.mem_map] at ha
  obtain ⟨p, hpm, rfl⟩ := ha
  have := cls_at h (f p) (hp p ((mem_alls hc).1 hpm)).1
  exact ⟨this.1, this.2.1⟩
/-- What the law wants of a view of a view (offset, dims, steps, error) and what the reference tells (dims, elements, error). -/
def Agr (o : Int) (d s : List Int) (w : Int × List Int × List Int × Int) (r : List Int × List Int × Int) : Prop :=
  (r.2.2 = 0 → w.2.2.2 = 0 ∧ w.2.1 = r.1 ∧ r.1.length ≤ 6 ∧ cls w.1 w.2.1 w.2.2.1 64 = r.2.1.map (fun a => at0 (cls o d s 64) a) ∧ r.2.1.length ≤ 64 ∧ ∀ a ∈ r.2.1, 0 ≤ a ∧ a < ((cls o d s 64).length : Int)) ∧
  (r.2.2 ≠ 0 → w = (0, [], [], r.2.2))
theorem agr_pk {o o' : Int} {d s d' s' : List Int} {f : List Int → List Int} (h : rgt o d s 64 = true) (hc : chk d' = 0) (hl : s'.length = d'.length) (hp : Pk o d s o' d' s' f) : Agr o d s (o', d', s', 0) (d', nums d d' f, 0) :=
  ⟨fun _ => ⟨rfl, rfl, (chk_ok hc).1, pk_cls h hc hl hp, (pk_nums h hc hp).1, (pk_nums h hc hp).2⟩, fun hh => absurd rfl hh⟩
theorem agr_err (o : Int) (d s : List Int) (e : Int) (he : e ≠ 0) : Agr o d s (0, [], [], e) ([], [], e) := ⟨fun hh => absurd hh he, fun _ => rfl⟩
theorem agr_permute {o : Int} {d s : List Int} (h : rgt o d s 64 = true) (l : List Int) : Agr o d s (pmt o d s l) (rpm d l) := by
  unfold pmt rpm
  rw [if_pos h]
  by_cases h2 : (perm d l).2 = 0
  · rw [if_pos h2, if_pos h2]
    obtain ⟨p1, p2, p3, p4, p5⟩ := perm_ok h2
    have hs := (rgt_ok h).1.2.1
    refine agr_pk h p4 (by rw [prm_length, prm_length]) (fun p hp => ⟨inb_prm p2 d p p3.symm hp, ?_⟩)
    rw [pmt_ofs p2 s p (by omega) (by rw [inb_length hp, prm_length])]
  · rw [if_neg h2, if_neg h2]
    exact agr_err _ _ _ _ h2
theorem prod_set_le (d : List Int) (h : ∀ x ∈ d, 1 ≤ x) (i : Nat) (hi : i < d.length) (c : Int) (h1 : 1 ≤ c) (h2 : c ≤ d[i]) : prod (d.set i c) ≤ prod d ∧ ∀ x ∈ d.set i c, 1 ≤ x := by
  refine ⟨?_, fun x hx => ?_⟩
  · induction d generalizing i with
    | nil => simp at hi
    | cons y d ih =>
      have hp := prod_pos d (fun z hz => h z (by simp [hz]))
      have hy := h y (by simp)
      cases i with
      | zero => simp only [List.set_cons_zero, prod]; exact Int.mul_le_mul_of_nonneg_right (by simpa using h2) (by omega)
      | succ i =>
        have := ih (fun z hz => h z (by simp [hz])) i (by simpa using hi) (by simpa using h2)
        simp only [List.set_cons_succ, prod]
        exact Int.mul_le_mul_of_nonneg_left this (by omega)
  · rcases List.mem_or_eq_of_mem_set hx with hx | rfl
    · exact h x hx
    · exact h1
theorem chk_set {d : List Int} (hc : chk d = 0) (i : Nat) (hi : i < d.length) (c : Int) (h1 : 1 ≤ c) (h2 : c ≤ d[i]) : chk (d.set i c) = 0 := by
  obtain ⟨a1, a2, a3⟩ := chk_ok hc
  obtain ⟨b1, b2⟩ := prod_set_le d a2 i hi c h1 h2
  exact ok_chk (by simpa using a1) b2 (by omega)
theorem rtk_ok {d : List Int} (hc : chk d = 0) (i : Nat) (hi : i < d.length) (marks : List Int) (h1 : 1 ≤ marks.length) (h2 : (marks.length : Int) ≤ d[i]) : rtk d (i : Int) marks = (d.set i (marks.length : Int), nums d (d.set i (marks.length : Int)) (tkf (i : Int) marks), 0) := by
  have hs := chk_set hc i hi (marks.length : Int) (by omega) h2
  have e : withd d (i : Int) (marks.length : Int) = (d.set i (marks.length : Int), 0) := by
    unfold withd
    rw [if_pos hc, if_neg (by omega), Int.toNat_natCast, if_pos hs]
  unfold rtk
  rw [e]; rfl
theorem tkf_inb {d : List Int} (i : Nat) (hi : i < d.length) (marks : List Int) (hm : ∀ m ∈ marks, 0 ≤ m ∧ m < at0 d (i : Int)) (p : List Int) (hp : inb (d.set i (marks.length : Int)) p = true) : inb d (tkf (i : Int) marks p) = true ∧ 0 ≤ at0 p (i : Int) ∧ at0 p (i : Int) < (marks.length : Int) := by
  obtain ⟨hl, hpi⟩ := (inb_iff _ _).1 hp
  rw [List.length_set] at hl hpi
  have ha := hpi i hi
  rw [at0_set_same _ _ hi] at ha
  refine ⟨(inb_iff _ _).2 ⟨by unfold tkf; simp; omega, fun b hb => ?_⟩, ha⟩
  unfold tkf
  rw [Int.toNat_natCast]
  by_cases e : i = b
  · subst e
    obtain ⟨j, hj⟩ := Int.eq_ofNat_of_zero_le ha.1
    have hjl : j < marks.length := by omega
    rw [at0_set_same _ _ (by omega), hj, at0_get _ _ hjl]
    exact hm _ (List.getElem_mem hjl)
  · rw [at0_set_other _ _ _ e]
    have := hpi b hb
    rw [at0_set_other _ _ _ e] at this
    exact this
theorem at0_map_range (n : Nat) (g : Nat → Int) (j : Int) (h0 : 0 ≤ j) (h1 : j < (n : Int)) : at0 ((List.range n).map g) j = g j.toNat := by
  obtain ⟨m, rfl⟩ := Int.eq_ofNat_of_zero_le h0
  rw [at0_get _ _ (by simp; omega)]
  simp
theorem agr_flip {o : Int} {d s : List Int} (h : rgt o d s 64 = true) (a : Int) : Agr o d s (flp o d s a) (rfl_ d a) := by
  unfold flp rfl_
  rw [if_pos h]
  by_cases h0 : a < 0 ∨ (d.length : Int) ≤ a
  · rw [if_pos h0, if_pos h0]; exact agr_err _ _ _ _ (by decide)
  · rw [if_neg h0, if_neg h0]
    obtain ⟨i, rfl⟩ := Int.eq_ofNat_of_zero_le (show 0 ≤ a by omega)
    have hv := (rgt_ok h).1
    have hi : i < d.length := by omega
    have hx := (chk_ok hv.1).2.1 _ (List.getElem_mem hi)
    have ex := at0_get d i hi
    obtain ⟨n, hn⟩ := Int.eq_ofNat_of_zero_le (show 0 ≤ at0 d (i : Int) by omega)
    have hml : ((List.range (at0 d (i : Int)).toNat).map fun j : Nat => at0 d (i : Int) - 1 - (j : Int)).length = n := by simp; omega
    have hset : d.set i (n : Int) = d := by rw [← hn, ex, List.set_getElem_self]
    have hmk : ∀ m ∈ (List.range (at0 d (i : Int)).toNat).map fun j : Nat => at0 d (i : Int) - 1 - (j : Int), 0 ≤ m ∧ m < at0 d (i : Int) := fun m hm => by
      simp only [List.mem_map, List.mem_range] at hm
      obtain ⟨j, hj, rfl⟩ := hm
      omega
    rw [rtk_ok hv.1 i hi _ (by omega) (by rw [hml]; omega), hml, hset]
    have key : ∀ p, inb d p = true → inb d (tkf (i : Int) ((List.range (at0 d (i : Int)).toNat).map fun j : Nat => at0 d (i : Int) - 1 - (j : Int)) p) = true ∧ tkf (i : Int) ((List.range (at0 d (i : Int)).toNat).map fun j : Nat => at0 d (i : Int) - 1 - (j : Int)) p = p.set i (at0 d (i : Int) - 1 - at0 p (i : Int)) := fun p hp => by
      obtain ⟨q1, q2, q3⟩ := tkf_inb i hi _ hmk p (by rw [hml, hset]; exact hp)
      rw [hml] at q3
      refine ⟨q1, ?_⟩
      unfold tkf
      rw [Int.toNat_natCast, at0_map_range _ _ _ q2 (by omega), Int.toNat_of_nonneg q2]
    by_cases h1 : 1 < at0 d (i : Int)
    · rw [if_pos h1, Int.toNat_natCast]
      refine agr_pk h hv.1 (by simpa using hv.2.1) (fun p hp => ⟨(key p hp).1, ?_⟩)
      rw [(key p hp).2]
      exact flp_ofs o d s p i hi hv.2.1 hp
    · rw [if_neg h1]
      refine agr_pk h hv.1 hv.2.1 (fun p hp => ⟨(key p hp).1, ?_⟩)
      rw [(key p hp).2]
      have hpl := inb_length hp
      have hg := inb_get hp i hi (by omega)
      have ep := at0_get p i (by omega)
      rw [show at0 d (i : Int) - 1 - at0 p (i : Int) = p[i] by omega, List.set_getElem_self]
theorem mrk_eq (x start step : Int) (n : Nat) : mrk x start step n = if ∀ i : Nat, i < n → 0 ≤ start + (i : Int) * step ∧ start + (i : Int) * step < x then some ((List.range n).map fun i : Nat => start + (i : Int) * step) else none := by
  unfold mrk
  by_cases h : ∀ i : Nat, i < n → 0 ≤ start + (i : Int) * step ∧ start + (i : Int) * step < x
  · rw [if_pos h, if_pos]
    rw [List.all_eq_true]
    intro i hi
    rw [List.mem_range] at hi
    simpa using h i hi
  · rw [if_neg h, if_neg]
    intro hh
    rw [List.all_eq_true] at hh
    refine h (fun i hi => ?_)
    have := hh i (by rw [List.mem_range]; exact hi)
    simpa using this
/-- All marks are in range just where the last one is. -/
theorem marks_last {x start step : Int} {n : Nat} (hn : 1 ≤ n) (h0 : 0 ≤ start) (h1 : start < x) : (∀ i : Nat, i < n → 0 ≤ start + (i : Int) * step ∧ start + (i : Int) * step < x) ↔ (0 ≤ start + ((n : Int) - 1) * step ∧ start + ((n : Int) - 1) * step < x) := by
  constructor
  · intro h
    have := h (n - 1) (by omega)
    rw [show (((n - 1 : Nat) : Int)) = (n : Int) - 1 by omega] at this
    exact this
  · rintro ⟨l0, l1⟩ i hi
    rcases Int.lt_or_le step 0 with hs | hs
    · have e1 : ((n : Int) - 1) * step ≤ (i : Int) * step := Int.mul_le_mul_of_nonpos_right (by omega) (by omega)
      have e2 : (i : Int) * step ≤ 0 := Int.mul_nonpos_of_nonneg_of_nonpos (by omega) (by omega)
      omega
    · have e1 : (i : Int) * step ≤ ((n : Int) - 1) * step := Int.mul_le_mul_of_nonneg_right (by omega) hs
      have e2 : 0 ≤ (i : Int) * step := Int.mul_nonneg (by omega) hs
      omega
theorem agr_slice {o : Int} {d s : List Int} (h : rgt o d s 64 = true) (a start count step : Int) : Agr o d s (vsl o d s a start count step) (rsl d a start count step) := by
  unfold vsl rsl
  rw [if_pos h]
  by_cases h0 : a < 0 ∨ (d.length : Int) ≤ a
  · rw [if_pos h0, if_pos h0]; exact agr_err _ _ _ _ (by decide)
  · rw [if_neg h0, if_neg h0]
    obtain ⟨i, rfl⟩ := Int.eq_ofNat_of_zero_le (show 0 ≤ a by omega)
    have hv := (rgt_ok h).1
    have hi : i < d.length := by omega
    have hx := (chk_ok hv.1).2.1 _ (List.getElem_mem hi)
    have hx2 := ok_le hv.1 _ (List.getElem_mem hi)
    have ex := at0_get d i hi
    rw [← ex] at hx hx2
    by_cases c : start < 0 ∨ at0 d (i : Int) ≤ start ∨ count < 1 ∨ at0 d (i : Int) < count
    · rw [if_pos (by omega), if_pos (by omega)]; exact agr_err _ _ _ _ (by decide)
    · obtain ⟨n, rfl⟩ := Int.eq_ofNat_of_zero_le (show 0 ≤ count by omega)
      rw [Int.toNat_natCast, Int.toNat_natCast]
      have hml := marks_last (x := at0 d (i : Int)) (start := start) (step := step) (n := n) (by omega) (by omega) (by omega)
      by_cases m : ∀ j : Nat, j < n → 0 ≤ start + (j : Int) * step ∧ start + (j : Int) * step < at0 d (i : Int)
      · have hl := hml.1 m
        have hb : 1 < (n : Int) → -(at0 d (i : Int)) < step ∧ step < at0 d (i : Int) := fun hn => by
          have := m 1 (by omega)
          simp at this
          omega
        by_cases hz : 1 < (n : Int) ∧ step = 0
        · rw [if_pos (.inr (.inr (.inr (.inr ⟨hz.1, .inl hz.2⟩)))), if_pos (.inr (.inr (.inr (.inr ⟨hz.1, .inl hz.2⟩))))]; exact agr_err _ _ _ _ (by decide)
        · have hA : ¬ (start < 0 ∨ at0 d (i : Int) ≤ start ∨ (n : Int) < 1 ∨ at0 d (i : Int) < (n : Int) ∨ (1 < (n : Int) ∧ (step = 0 ∨ at0 d (i : Int) ≤ step ∨ step ≤ -(at0 d (i : Int)) ∨ start + ((n : Int) - 1) * step < 0 ∨ at0 d (i : Int) ≤ start + ((n : Int) - 1) * step))) := by omega
          have hB : ¬ ((n : Int) < 1 ∨ at0 d (i : Int) < (n : Int) ∨ start < 0 ∨ at0 d (i : Int) ≤ start ∨ (1 < (n : Int) ∧ (step = 0 ∨ 64 < step ∨ step < -64))) := by omega
          rw [if_neg hA, if_neg hB, mrk_eq, if_pos m]
          simp only
          have hmk : ∀ q ∈ (List.range n).map fun j : Nat => start + (j : Int) * step, 0 ≤ q ∧ q < at0 d (i : Int) := fun q hq => by
            simp only [List.mem_map, List.mem_range] at hq
            obtain ⟨j, hj, rfl⟩ := hq
            exact m j hj
          have hlen : ((List.range n).map fun j : Nat => start + (j : Int) * step).length = n := by simp
          rw [rtk_ok hv.1 i hi _ (by omega) (by rw [hlen, ← ex]; omega), hlen]
          refine agr_pk (s' := if (n : Int) = 1 then s.set i 0 else s.set i (at0 s (i : Int) * step)) h (chk_set hv.1 i hi (n : Int) (by omega) (by rw [← ex]; omega)) (by split <;> simp <;> exact hv.2.1) (fun p hp => ?_)
          obtain ⟨q1, q2, q3⟩ := tkf_inb i hi _ hmk p (by rw [hlen]; exact hp)
          rw [hlen] at q3
          refine ⟨q1, ?_⟩
          have hpl := inb_length hp
          rw [List.length_set] at hpl
          have hf : tkf (i : Int) ((List.range n).map fun j : Nat => start + (j : Int) * step) p = p.set i (start + at0 p (i : Int) * step) := by
            unfold tkf
            rw [Int.toNat_natCast, at0_map_range _ _ _ q2 (by omega), Int.toNat_of_nonneg q2]
          rw [hf]
          have e2 := ofs_set p s i (by omega) (by rw [hv.2.1]; omega) (start + at0 p (i : Int) * step) s[i]
          rw [List.set_getElem_self] at e2
          have es := at0_get s i (by rw [hv.2.1]; omega)
          have ep := at0_get p i (by omega)
          rw [← es, ← ep] at e2
          have e3 : (start + at0 p (i : Int) * step) * at0 s (i : Int) = start * at0 s (i : Int) + at0 p (i : Int) * (at0 s (i : Int) * step) := by
            rw [Int.add_mul, Int.mul_assoc, Int.mul_comm step]
          have eo : (if 0 < start then o + start * at0 s (i : Int) else o) = o + start * at0 s (i : Int) := by
            split
            · rfl
            · rw [show start = 0 by omega, Int.zero_mul, Int.add_zero]
          rw [eo, e2, e3]
          by_cases hn1 : (n : Int) = 1
          · rw [if_pos hn1]
            have e1 := ofs_set p s i (by omega) (by rw [hv.2.1]; omega) p[i] 0
            rw [List.set_getElem_self, ← ep, ← es] at e1
            have hp0 : at0 p (i : Int) = 0 := by omega
            rw [e1, hp0]
            simp only [Int.zero_mul, Int.add_zero, Int.sub_zero]
            omega
          · rw [if_neg hn1]
            have e1 := ofs_set p s i (by omega) (by rw [hv.2.1]; omega) p[i] (at0 s (i : Int) * step)
            rw [List.set_getElem_self, ← ep, ← es] at e1
            rw [e1]
            omega
      · have hl : ¬ (0 ≤ start + ((n : Int) - 1) * step ∧ start + ((n : Int) - 1) * step < at0 d (i : Int)) := fun hh => m (hml.2 hh)
        have hn1 : 1 < (n : Int) := by
          apply Decidable.byContradiction
          intro hc
          have : (n : Int) - 1 = 0 := by omega
          rw [this, Int.zero_mul, Int.add_zero] at hl
          omega
        rw [if_pos (by omega)]
        by_cases hz : step = 0 ∨ 64 < step ∨ step < -64
        · rw [if_pos (by omega)]; exact agr_err _ _ _ _ (by decide)
        · rw [if_neg (by omega), mrk_eq, if_neg m]; exact agr_err _ _ _ _ (by decide)
theorem ofs_pad (k : Nat) (p t : List Int) : ofs p (List.replicate k 0 ++ t) = ofs (p.drop k) t := by
  induction k generalizing p with
  | zero => simp
  | succ k ih =>
    cases p with
    | nil => simp [ofs]
    | cons a p => rw [List.replicate_succ, List.cons_append, ofs, Int.mul_zero, Int.zero_add, ih, List.drop_succ_cons]
theorem ofs_sat (d s q : List Int) (h : ∀ x ∈ d, 1 ≤ x) (hl : s.length = d.length) (hq : q.length = d.length) : ofs q (exs d s) = ofs (sat d q) s := by
  induction d generalizing s q with
  | nil => cases q <;> simp_all [sat, ofs]
  | cons x d ih =>
    cases s with
    | nil => simp at hl
    | cons t s =>
      cases q with
      | nil => simp at hq
      | cons v q =>
        have hx := h x (by simp)
        simp only [exs, sat, ofs]
        rw [ih s q (fun y hy => h y (by simp [hy])) (by simpa using hl) (by simpa using hq)]
        by_cases h1 : x = 1
        · rw [if_neg (by omega), if_pos h1]; simp
        · rw [if_pos (by omega), if_neg h1]
theorem agr_expand {o : Int} {d s : List Int} (h : rgt o d s 64 = true) (to_ : List Int) : Agr o d s (vex o d s to_) (rex d to_) := by
  unfold vex rex
  rw [if_pos h]
  by_cases h1 : chk to_ = 0
  · rw [if_pos h1, if_pos h1]
    by_cases h2 : fts d to_ = true
    · rw [if_pos h2, if_pos h2]
      obtain ⟨f1, f2, f3, f4⟩ := (fts_iff d to_).1 h2
      have hs := (rgt_ok h).1.2.1
      have e : srcs d to_ = nums d to_ fun p => sat d (p.drop (to_.length - d.length)) := by unfold srcs nums; rw [if_pos h2]
      rw [e]
      have hd := (chk_ok f1).2.1
      refine agr_pk h h1 (by simp [exs_length d s hs]; omega) (fun p hp => ?_)
      have hpl := inb_length hp
      have hsub := sub_drop f4 (to_.length - d.length)
      rw [pad_drop] at hsub
      refine ⟨inb_sat d _ _ hsub hd (inb_dropn _ _ hp _), ?_⟩
      rw [ofs_pad, ofs_sat d s _ hd hs (by rw [List.length_drop]; omega)]
    · rw [if_neg h2, if_neg h2]; exact agr_err _ _ _ _ (by decide)
  · rw [if_neg h1, if_neg h1]; exact agr_err _ _ _ _ h1
theorem ofs_stp (d p : List Int) (hp : p.length = d.length) : ofs p (stp d) = num d p := by
  induction d generalizing p with
  | nil => cases p <;> simp_all [ofs, num]
  | cons x d ih =>
    cases p with
    | nil => simp at hp
    | cons a p => simp only [stp, ofs, num]; rw [ih p (by simpa using hp)]
theorem agr_reshape {o : Int} {d s : List Int} (h : rgt o d s 64 = true) (to_ : List Int) : Agr o d s (vrs o d s to_) (if (rsp d to_).2.2 = 0 ∧ ¬ row (cls o d s 64) = true then ((rsp d to_).1, (rsp d to_).2.1, 19) else rsp d to_) := by
  unfold vrs rsp
  rw [if_pos h]
  by_cases h1 : chk to_ = 0
  · rw [if_pos h1, if_pos h1]
    by_cases h2 : cnt to_ = cnt d
    · rw [if_pos h2, if_pos h2]
      by_cases h3 : row (cls o d s 64) = true
      · rw [if_pos h3, if_neg (fun hh => hh.2 h3)]
        have hv := (rgt_ok h).1
        have hd := (chk_ok hv.1).2.1
        have ht := (chk_ok h1).2.1
        have c1 := cnt_ok h1
        have c2 := cnt_ok hv.1
        rw [← rws_row h, rws_iff d s hd hv.2.1] at h3
        have e : ((List.range (cnt d).toNat).map fun i : Nat => (i : Int)) = nums d to_ fun p => dig d (num to_ p) := by
          unfold nums
          rw [alls_ok h1]
          unfold pre
          rw [List.map_map]
          have : (prod to_).toNat = (cnt d).toNat := by omega
          rw [this]
          apply List.map_congr_left
          intro i hi
          rw [List.mem_range] at hi
          simp only [Function.comp]
          rw [num_dig_lt to_ ht _ (by omega) (by omega), num_dig_lt d hd _ (by omega) (by omega)]
        rw [e]
        refine agr_pk h h1 (stp_length to_) (fun p hp => ⟨inb_dig d hd _, ?_⟩)
        obtain ⟨n1, n2⟩ := num_lt to_ p ht hp
        rw [ofs_stp to_ p (inb_length hp), h3 _ n1 (by omega)]
      · rw [if_neg h3, if_pos ⟨rfl, h3⟩]
        exact ⟨fun hh => absurd hh (by simp), fun _ => rfl⟩
    · rw [if_neg h2, if_neg h2, if_neg (fun hh => absurd hh.1 (by simp))]; exact agr_err _ _ _ _ (by decide)
  · rw [if_neg h1, if_neg h1, if_neg (fun hh => h1 hh.1)]; exact agr_err _ _ _ _ h1
/-- What is seen, by the primitive. -/
def sen (o : Int) (d s : List Int) (op n a b c : Int) (l : List Int) : Int × List Int × List Int × Int :=
  if op = 33 then vrs o d s l else if op = 34 then pmt o d s l else if op = 35 then vsl o d s n a b c else if op = 36 then vex o d s l else flp o d s n
def ses (d : List Int) (op n a b c : Int) (l : List Int) : List Int × List Int × Int :=
  if op = 33 then rsp d l else if op = 34 then rpm d l else if op = 35 then rsl d n a b c else if op = 36 then rex d l else rfl_ d n
theorem agr_sen {o : Int} {d s : List Int} (h : rgt o d s 64 = true) (op n a b c : Int) (l : List Int) (hr : op = 33 → row (cls o d s 64) = true) : Agr o d s (sen o d s op n a b c l) (ses d op n a b c l) := by
  unfold sen ses
  by_cases h1 : op = 33
  · rw [if_pos h1, if_pos h1]
    have := agr_reshape h l
    rwa [if_neg (fun hh => hh.2 (hr h1))] at this
  · rw [if_neg h1, if_neg h1]
    by_cases h2 : op = 34
    · rw [if_pos h2, if_pos h2]; exact agr_permute h l
    · rw [if_neg h2, if_neg h2]
      by_cases h3 : op = 35
      · rw [if_pos h3, if_pos h3]; exact agr_slice h n a b c
      · rw [if_neg h3, if_neg h3]
        by_cases h4 : op = 36
        · rw [if_pos h4, if_pos h4]; exact agr_expand h l
        · rw [if_neg h4, if_neg h4]; exact agr_flip h n
theorem rtk_right (d : List Int) (n : Int) (l : List Int) : ((rtk d n l).2.2 = 0 → chk (rtk d n l).1 = 0) ∧ ((rtk d n l).2.2 ≠ 0 → (rtk d n l).1 = []) := by
  unfold rtk
  by_cases h : (withd d n (l.length : Int)).2 = 0
  · obtain ⟨w1, w2, w3, w4, w5⟩ := withd_o29 h
    rw [if_pos h, w5]
    exact ⟨fun _ => w4, fun hh => absurd rfl hh⟩
  · rw [if_neg h]
    exact ⟨fun hh => absurd hh h, fun _ => rfl⟩
theorem ses_right (d : List Int) (op n a b c : Int) (l : List Int) : ((ses d op n a b c l).2.2 = 0 → chk (ses d op n a b c l).1 = 0) ∧ ((ses d op n a b c l).2.2 ≠ 0 → (ses d op n a b c l).1 = []) := by
  unfold ses
  split
  · unfold rsp
    by_cases h : chk l = 0
    · rw [if_pos h]; split
      · exact ⟨fun _ => h, fun hh => absurd rfl hh⟩
      · exact ⟨fun hh => absurd hh (by decide), fun _ => rfl⟩
    · rw [if_neg h]; exact ⟨fun hh => absurd hh h, fun _ => rfl⟩
  · split
    · unfold rpm
      by_cases h : (perm d l).2 = 0
      · rw [if_pos h]; exact ⟨fun _ => (perm_ok h).2.2.2.1, fun hh => absurd rfl hh⟩
      · rw [if_neg h]; exact ⟨fun hh => absurd hh h, fun _ => rfl⟩
    · split
      · unfold rsl
        split
        · exact ⟨fun hh => absurd hh (by decide), fun _ => rfl⟩
        · split
          · exact ⟨fun hh => absurd hh (by decide), fun _ => rfl⟩
          · split
            · exact rtk_right _ _ _
            · exact ⟨fun hh => absurd hh (by decide), fun _ => rfl⟩
      · split
        · unfold rex
          by_cases h : chk l = 0
          · rw [if_pos h]; split
            · exact ⟨fun _ => h, fun hh => absurd rfl hh⟩
            · exact ⟨fun hh => absurd hh (by decide), fun _ => rfl⟩
          · rw [if_neg h]; exact ⟨fun hh => absurd hh h, fun _ => rfl⟩
        · unfold rfl_
          split
          · exact ⟨fun hh => absurd hh (by decide), fun _ => rfl⟩
          · exact rtk_right _ _ _
theorem sen_whole {d : List Int} (h : chk d = 0) (op n a b c : Int) (l : List Int) : (sen 0 d (stp d) op n a b c l).2.1 = (ses d op n a b c l).1 ∧ (sen 0 d (stp d) op n a b c l).2.2.2 = (ses d op n a b c l).2.2 := by
  have hg := agr_sen (whole_rgt h) op n a b c l (fun _ => whole_row h)
  by_cases e : (ses d op n a b c l).2.2 = 0
  · obtain ⟨a1, a2, _⟩ := hg.1 e
    exact ⟨a2, by rw [a1, e]⟩
  · rw [hg.2 e]
    exact ⟨((ses_right d op n a b c l).2 e).symm, rfl⟩
/-- The first thing that is wrong with dims. -/
def fchk : List (List Int) → Int
  | [] => 0
  | d :: l => if chk d = 0 then fchk l else chk d
theorem fchk_all {l : List (List Int)} (h : fchk l = 0) : ∀ d ∈ l, chk d = 0 := by
  induction l with
  | nil => simp
  | cons d l ih =>
    unfold fchk at h
    split at h
    · rename_i h1
      intro x hx
      rcases List.mem_cons.1 hx with rfl | hx
      · exact h1
      · exact ih h x hx
    · exact absurd h (by assumption)
/-- Are they alike but at the axis, from the i-th one on? -/
def jok (n : Int) (a b : List Int) (i : Nat) : Bool := (List.range (a.length - i)).all fun j => decide (((i + j : Nat) : Int) = n) || decide (at0 a ((i + j : Nat) : Int) = at0 b ((i + j : Nat) : Int))
theorem jok_end (n : Int) (a b : List Int) : jok n a b a.length = true := by unfold jok; simp
theorem jok_step (n : Int) (a b : List Int) (i : Nat) (h : i < a.length) : jok n a b i = ((decide ((i : Int) = n) || decide (at0 a (i : Int) = at0 b (i : Int))) && jok n a b (i + 1)) := by
  unfold jok
  rw [show a.length - i = (a.length - (i + 1)) + 1 by omega, List.range_succ_eq_map, List.all_cons, List.all_map, Nat.add_zero]
  congr 2
  funext j
  simp only [Function.comp, Nat.succ_eq_add_one]
  rw [show i + (j + 1) = i + 1 + j by omega]
def joind (a b : List Int) (n : Int) : List Int × Int :=
  if n < 0 ∨ (a.length : Int) ≤ n then ([], 10) else if a.length = b.length then (if jok n a b 0 = true then withd a n (at0 a n + at0 b n) else ([], 8)) else ([], 8)
def mvd (op n a b c : Int) (l : List Int) (dims : List (List Int)) : List Int × Int :=
  if 33 ≤ op ∧ op ≤ 40 then (if (dims.length : Int) = (if op = 40 then 2 else 1) then (if fchk dims = 0 then
    (if op = 38 then takd (dims.getD 0 []) n l else if op = 39 then putd (dims.getD 0 []) n a l else if op = 40 then joind (dims.getD 0 []) (dims.getD 1 []) n else ((ses (dims.getD 0 []) op n a b c l).1, (ses (dims.getD 0 []) op n a b c l).2.2))
    else ([], fchk dims)) else ([], 1)) else ([], 14)
/-- Dims that may be, or none, and what is wrong. -/
def Rgt (r : List Int × Int) : Prop := (r.2 = 0 → chk r.1 = 0) ∧ (r.2 ≠ 0 → r.1 = [])
theorem rgt_err (e : Int) (h : e ≠ 0) : Rgt ([], e) := ⟨fun hh => absurd hh h, fun _ => rfl⟩
theorem rgt_withd (d : List Int) (n a : Int) : Rgt (withd d n a) := by
  by_cases h : (withd d n a).2 = 0
  · obtain ⟨w1, w2, w3, w4, w5⟩ := withd_o29 h
    rw [w5]; exact ⟨fun _ => w4, fun hh => absurd rfl hh⟩
  · refine ⟨fun hh => absurd hh h, fun _ => ?_⟩
    unfold withd at h ⊢
    split
    · rename_i h1
      rw [if_pos h1] at h
      split
      · rfl
      · rename_i h2
        rw [if_neg h2] at h
        split
        · rename_i h3; rw [if_pos h3] at h; exact absurd rfl h
        · rfl
    · rfl
theorem rgt_putd (d : List Int) (n a : Int) (l : List Int) : Rgt (putd d n a l) := by
  refine ⟨fun h => ?_, fun h => putd_err h⟩
  obtain ⟨w1, w2, w3, w4, w5, w6, w7⟩ := putd_ok h
  rw [w7]; exact w4
theorem rgt_takd (d : List Int) (n : Int) (l : List Int) : Rgt (takd d n l) := by
  unfold takd
  split
  · exact rgt_err _ (by decide)
  · split
    · exact rgt_withd _ _ _
    · exact rgt_err _ (by decide)
theorem rgt_joind (a b : List Int) (n : Int) : Rgt (joind a b n) := by
  unfold joind
  split
  · exact rgt_err _ (by decide)
  · split
    · split
      · exact rgt_withd _ _ _
      · exact rgt_err _ (by decide)
    · exact rgt_err _ (by decide)
theorem rgt_mvd (op n a b c : Int) (l : List Int) (dims : List (List Int)) : Rgt (mvd op n a b c l dims) := by
  unfold mvd
  by_cases h1 : 33 ≤ op ∧ op ≤ 40
  · rw [if_pos h1]
    by_cases h2 : (dims.length : Int) = (if op = 40 then 2 else 1)
    · rw [if_pos h2]
      by_cases h3 : fchk dims = 0
      · rw [if_pos h3]
        by_cases h4 : op = 38
        · rw [if_pos h4]; exact rgt_takd _ _ _
        · rw [if_neg h4]
          by_cases h5 : op = 39
          · rw [if_pos h5]; exact rgt_putd _ _ _ _
          · rw [if_neg h5]
            by_cases h6 : op = 40
            · rw [if_pos h6]; exact rgt_joind _ _ _
            · rw [if_neg h6]; exact ses_right _ _ _ _ _ _ _
      · rw [if_neg h3]; exact rgt_err _ h3
    · rw [if_neg h2]; exact rgt_err _ (by decide)
  · rw [if_neg h1]; exact rgt_err _ (by decide)
theorem rgt_drop (d l : List Int) (keep : Bool) (hm : (axs d.length l).2 = 0 → (axs d.length l).1.length = d.length) : Rgt (drop d l keep) := by
  unfold drop
  by_cases h : chk d = 0
  · rw [if_pos h]
    by_cases h2 : (axs d.length l).2 = 0
    · rw [if_pos h2]
      exact ⟨fun _ => (drp_ok keep _ d (hm h2) h).1, fun hh => absurd rfl hh⟩
    · rw [if_neg h2]; exact rgt_err _ h2
  · rw [if_neg h]; exact rgt_err _ h
/-- Any number of dims, from left to right. -/
def mny : List Int → List (List Int) → List Int × Int
  | o, [] => (o, 0)
  | o, d :: l => if (two o d).2 = 0 then mny (two o d).1 l else ([], (two o d).2)
theorem rgt_mny (l : List (List Int)) : ∀ o : List Int, chk o = 0 → Rgt (mny o l) := by
  induction l with
  | nil => intro o h; exact ⟨fun _ => h, fun hh => absurd rfl hh⟩
  | cons d l ih =>
    intro o h
    unfold mny
    by_cases e : (two o d).2 = 0
    · rw [if_pos e]
      exact ih _ (two_ok (a := o) (b := d) (x := (two o d).1) (by rw [← e])).2.2.2.1
    · rw [if_neg e]; exact rgt_err _ e
def mmz (a b : List Int) : List Int := (two (a.take (a.length - 2)) (b.take (b.length - 2))).1 ++ [at0 a ((a.length : Int) - 2), at0 b ((b.length : Int) - 1)]
def mmd (a b : List Int) : List Int × Int :=
  if fchk [a, b] = 0 then (if a.length < 2 ∨ b.length < 2 then ([], 9) else if at0 a ((a.length : Int) - 1) = at0 b ((b.length : Int) - 2) then
    (if (two (a.take (a.length - 2)) (b.take (b.length - 2))).2 = 0 then (if chk (mmz a b) = 0 then (mmz a b, 0) else ([], chk (mmz a b))) else ([], (two (a.take (a.length - 2)) (b.take (b.length - 2))).2)) else ([], 8)) else ([], fchk [a, b])
theorem rgt_mmd (a b : List Int) : Rgt (mmd a b) := by
  unfold mmd
  split
  · split
    · exact rgt_err _ (by decide)
    · split
      · split
        · split
          · rename_i h; exact ⟨fun _ => h, fun hh => absurd rfl hh⟩
          · rename_i h; exact rgt_err _ h
        · rename_i h; exact rgt_err _ h
      · exact rgt_err _ (by decide)
  · rename_i h; exact rgt_err _ h
def ari (op : Int) : Int := if 1 ≤ op ∧ op ≤ 40 then (if (17 ≤ op ∧ op ≤ 23) ∨ op = 32 ∨ op = 40 then 2 else if 24 ≤ op ∧ op ≤ 26 then 3 else 1) else 0
def kls (op : Int) : Int := if 1 ≤ op ∧ op ≤ 40 then (if op < 27 then 1 else if op < 32 then 2 else if op = 32 then 3 else if op ≤ 37 then 4 else 5) else 0
def cst (p q : Int) : Bool := decide (-1048576 ≤ p) && decide (p ≤ 1048576) && decide (1 ≤ q) && decide (q ≤ 1048576)
def atr (op n p q r s : Int) (f : Int → Int → Int → Int → Bool) : Bool :=
  if op = 12 then decide (-8 ≤ n) && decide (n ≤ 8) else if op = 13 ∨ op = 14 ∨ op = 16 then cst p q else if op = 15 then cst p q && cst r s && f p q r s else decide (1 ≤ op ∧ op ≤ 40)
def axes (op n : Int) (l : List Int) : List Int := if op = 27 ∨ op = 28 then l else [n]
def ifd (f : Int → Int → Int → Int → Bool) (op n a b c p q r s : Int) (kp : Bool) (l : List Int) (dims : List (List Int)) : List Int × Int :=
  if 1 ≤ op ∧ op ≤ 40 then (if (dims.length : Int) = ari op then (if fchk dims = 0 then (if atr op n p q r s f = true then
    (if kls op = 1 then mny [] dims else if kls op = 2 then drop (dims.getD 0 []) (axes op n l) kp else if kls op = 3 then mmd (dims.getD 0 []) (dims.getD 1 []) else mvd op n a b c l dims)
    else ([], 1)) else ([], fchk dims)) else ([], 1)) else ([], 14)
theorem rgt_ifd (f : Int → Int → Int → Int → Bool) (op n a b c p q r s : Int) (kp : Bool) (l : List Int) (dims : List (List Int)) (hm : ∀ d m : List Int, (axs d.length m).2 = 0 → (axs d.length m).1.length = d.length) : Rgt (ifd f op n a b c p q r s kp l dims) := by
  unfold ifd
  split
  · split
    · split
      · split
        · split
          · exact rgt_mny _ _ (by decide)
          · split
            · exact rgt_drop _ _ _ (hm _ _)
            · split
              · exact rgt_mmd _ _
              · exact rgt_mvd _ _ _ _ _ _ _
        · exact rgt_err _ (by decide)
      · rename_i h; exact rgt_err _ h
    · exact rgt_err _ (by decide)
  · exact rgt_err _ (by decide)
end Gr
namespace Go.Proofs.Ytcdiobcldhiemaa.S
open Go.RowKit Go.Proofs.Ytcdiobcldhiemaa.Q Go.Proofs.YtcdiobcldhiemaaW.PrintWords Go.Proofs.YtcdiobcldhiemaaW.PrintLast Go.Proofs.YtcdiobcldhiemaaW.PrintMore
set_option linter.unusedVariables false
set_option linter.unusedSimpArgs false
theorem w64 {x : Int} (h0 : -9223372036854775808 ≤ x) (h1 : x ≤ 9223372036854775807) : wrap64 x = x := by
  unfold wrap64; omega
theorem down (P : Nat → Prop) (n : Nat) (h0 : P n) (hs : ∀ i, i < n → P (i + 1) → P i) : ∀ i, i ≤ n → P i := by
  intro i hi
  obtain ⟨d, rfl⟩ : ∃ d, n = i + d := ⟨n - i, by omega⟩
  clear hi
  induction d generalizing i with
  | zero => exact h0
  | succ d ih =>
    apply hs i (by omega)
    exact ih (i + 1) (by rw [show i + 1 + d = i + (d + 1) by omega]; exact h0) (fun j hj hp => hs j (by omega) hp)
theorem rdg (l : List Int) (i : Nat) (h : i < l.length) : rd l (i : Int) = l[i] := by
  simp [rd, List.getD_eq_getElem?_getD, List.getElem?_eq_getElem h]
theorem rdb (l : List Bool) (i : Nat) (h : i < l.length) : rdOf false l (i : Int) = l[i] := by
  simp [rdOf, List.getD_eq_getElem?_getD, List.getElem?_eq_getElem h]
theorem dropc (l : List Int) (i : Nat) (h : i < l.length) : l.drop i = rd l (i : Int) :: l.drop (i + 1) := by
  rw [rdg l i h]; exact (List.drop_eq_getElem_cons h)
theorem nx (i n : Nat) (h : i < n) (hn : n ≤ 1000000000) : wrap64 ((i : Int) + 1) = ((i + 1 : Nat) : Int) := by
  rw [w64 (by omega) (by omega)]; omega
theorem shape_check (d : List Int) : shape_Check.f d = some (Gr.chk d) := rfl
theorem check_1 (d : List Int) (hok : ∀ x ∈ d, 1 ≤ x) (hn : d.length ≤ 6) : ∀ i, i ≤ d.length → Gr.prod (d.take i) ≤ 64 →
    Ev (fun k => gradineref19_Check.l1 k d (Gr.prod (d.take i)) (d.length : Int) (i : Int)) (if 64 < Gr.prod d then 12 else 0) := by
  apply down
  · intro h
    rw [List.take_length] at h ⊢
    rw [if_neg (by omega)]
    refine Ev.step (fun k => ?_) (Ev.now 0)
    rw [gradineref19_Check.l1, if_neg (by omega)]
  · intro i hi ih h
    have hp := Gr.prod_pos (d.take i) (fun x hx => hok x (List.mem_of_mem_take hx))
    have hs := Gr.prod_take_succ d i hi
    have h1 : 1 ≤ d[i] := hok _ (List.getElem_mem hi)
    have hle := Gr.prod_take_le d hok (i + 1)
    have hge : d[i] ≤ Gr.prod (d.take i) * d[i] := by
      have : 1 * d[i] ≤ Gr.prod (d.take i) * d[i] := Int.mul_le_mul_of_nonneg_right hp (by omega)
      omega
    by_cases e : 64 < d[i]
    · rw [if_pos (by omega)]
      refine Ev.step (fun k => ?_) (Ev.now 12)
      rw [gradineref19_Check.l1, if_pos (by omega), if_pos (by omega), if_pos (by omega), rdg d i hi, if_pos (by omega)]
    · have hb : Gr.prod (d.take i) * d[i] ≤ 64 * 64 := Int.mul_le_mul h (by omega) (by omega) (by omega)
      by_cases e2 : 64 < Gr.prod (d.take i) * d[i]
      · rw [if_pos (by omega)]
        refine Ev.step (fun k => ?_) (Ev.now 12)
        rw [gradineref19_Check.l1, if_pos (by omega), if_pos (by omega), if_pos (by omega), rdg d i hi, if_neg (by omega), w64 (by omega) (by omega), if_pos (by omega)]
      · refine Ev.step (fun k => ?_) (ih (by omega))
        rw [gradineref19_Check.l1, if_pos (by omega), if_pos (by omega), if_pos (by omega), rdg d i hi, if_neg (by omega), w64 (by omega) (by omega), if_neg (by omega), nx i _ hi (by omega), ← hs]
theorem check_0 (d : List Int) (hn : d.length ≤ 6) : ∀ i, i ≤ d.length → (∀ x ∈ d.take i, 1 ≤ x) →
    Ev (fun k => gradineref19_Check.l0 k d (d.length : Int) (i : Int)) (Gr.chk d) := by
  apply down
  · intro h
    rw [List.take_length] at h
    have e : Gr.chk d = if 64 < Gr.prod d then 12 else 0 := by
      unfold Gr.chk
      rw [if_neg (by omega), if_neg]
      rw [Bool.not_eq_true, List.any_eq_false]
      intro x hx
      have := h x hx
      simp; omega
    rw [e]
    refine Ev.step (fun k => ?_) (check_1 d h hn 0 (by omega) (by simp [Gr.prod]))
    rw [gradineref19_Check.l0, if_neg (by omega)]; simp [Gr.prod]
  · intro i hi ih h
    by_cases e : d[i] < 1
    · have e8 : Gr.chk d = 8 := by
        unfold Gr.chk
        rw [if_neg (by omega), if_pos]
        rw [List.any_eq_true]
        exact ⟨d[i], List.getElem_mem hi, by simpa using e⟩
      rw [e8]
      refine Ev.step (fun k => ?_) (Ev.now 8)
      rw [gradineref19_Check.l0, if_pos (by omega), if_pos (by omega), if_pos (by omega), rdg d i hi, if_pos (by omega)]
    · refine Ev.step (fun k => ?_) (ih ?_)
      · rw [gradineref19_Check.l0, if_pos (by omega), if_pos (by omega), if_pos (by omega), rdg d i hi, if_neg (by omega), nx i _ hi (by omega)]
      · intro x hx
        rw [List.take_succ_eq_append_getElem hi, List.mem_append] at hx
        rcases hx with hx | hx
        · exact h x hx
        · simp at hx; omega
theorem ref_check (d : List Int) : Ev (fun k => gradineref19_Check.f k d) (Gr.chk d) := by
  by_cases h : 6 < d.length
  · have e : Gr.chk d = 9 := by unfold Gr.chk; rw [if_pos h]
    rw [e]
    refine Ev.congr (fun k => ?_) (Ev.now 9)
    rw [gradineref19_Check.f, if_pos (by omega)]
  · refine Ev.congr (fun k => ?_) (check_0 d (by omega) 0 (by omega) (by simp))
    rw [gradineref19_Check.f, if_neg (by omega)]; rfl
theorem prod_step {d : List Int} (hok : Gr.chk d = 0) (i : Nat) (hi : i < d.length) :
    1 ≤ Gr.prod (d.take i) ∧ Gr.prod (d.take i) * d[i] = Gr.prod (d.take (i + 1)) ∧ Gr.prod (d.take (i + 1)) ≤ 64 ∧ 1 ≤ Gr.prod (d.take (i + 1)) := by
  obtain ⟨h6, h1, h2⟩ := Gr.chk_ok hok
  have := Gr.prod_take_le d h1 (i + 1)
  exact ⟨Gr.prod_pos _ (fun x hx => h1 x (List.mem_of_mem_take hx)), (Gr.prod_take_succ d i hi).symm, by omega, Gr.prod_pos _ (fun x hx => h1 x (List.mem_of_mem_take hx))⟩
theorem count_l (d : List Int) (hok : Gr.chk d = 0) : ∀ i, i ≤ d.length →
    Ev (fun k => shape_Count.l0 k (Gr.prod (d.take i)) d (d.length : Int) (i : Int)) (Gr.prod d) := by
  obtain ⟨h6, h1, h2⟩ := Gr.chk_ok hok
  apply down
  · rw [List.take_length]
    refine Ev.step (fun k => ?_) (Ev.now _)
    rw [shape_Count.l0, if_neg (by omega)]
  · intro i hi ih
    obtain ⟨p1, p2, p3, p4⟩ := prod_step hok i hi
    refine Ev.step (fun k => ?_) ih
    rw [shape_Count.l0, if_pos (by omega), if_pos (by omega), if_pos (by omega), rdg d i hi, w64 (by omega) (by omega), nx i _ hi (by omega), p2]
theorem shape_count (d : List Int) : Ev (fun k => shape_Count.f k d) (Gr.cnt d) := by
  unfold Gr.cnt
  by_cases h : Gr.chk d = 0
  · rw [if_pos h]
    refine Ev.congr (fun k => ?_) (count_l d h 0 (by omega))
    rw [shape_Count.f, shape_check, Option.bind_some, if_pos h]; simp [Gr.prod]
  · rw [if_neg h]
    refine Ev.congr (fun k => ?_) (Ev.now 0)
    rw [shape_Count.f, shape_check, Option.bind_some, if_neg h]
theorem steps_set (d x : List Int) (i : Nat) (hi : i < d.length) (hl : x.length = d.length) (hx : x.drop (i + 1) = Gr.stp (d.drop (i + 1))) :
    (x.set i (Gr.prod (d.drop (i + 1)))).drop i = Gr.stp (d.drop i) := by
  rw [List.drop_eq_getElem_cons (by simp; omega), List.drop_eq_getElem_cons hi]
  simp only [List.getElem_set_self, Gr.stp, List.cons.injEq, true_and]
  rw [List.drop_set_of_lt (by omega)]
  exact hx
theorem steps_l (d : List Int) (hok : Gr.chk d = 0) : ∀ i, i ≤ d.length → ∀ x : List Int, x.length = d.length → x.drop i = Gr.stp (d.drop i) →
    Ev (fun k => shape_Steps.l0 k d x (Gr.prod (d.drop i)) ((i : Int) - 1)) (Gr.stp d) := by
  obtain ⟨h6, h1, h2⟩ := Gr.chk_ok hok
  intro i
  induction i with
  | zero =>
    intro hi x hl hx
    simp at hx
    subst hx
    refine Ev.step (fun k => ?_) (Ev.now _)
    rw [shape_Steps.l0, if_neg (by omega)]
  | succ i ih =>
    intro hi x hl hx
    have hlt : i < d.length := by omega
    have hd : d.drop i = d[i] :: d.drop (i + 1) := List.drop_eq_getElem_cons hlt
    obtain ⟨q6, q1, q2⟩ := Gr.chk_ok (Gr.ok_drop hok i)
    have q3 := Gr.prod_pos _ q1
    have hp : Gr.prod (d.drop i) = Gr.prod (d.drop (i + 1)) * d[i] := by rw [hd]; simp only [Gr.prod]; rw [Int.mul_comm]
    refine Ev.step (fun k => ?_) (ih (by omega) (x.set i (Gr.prod (d.drop (i + 1)))) (by simp [hl]) (steps_set d x i hlt hl hx))
    rw [shape_Steps.l0, show (((i + 1 : Nat) : Int) - 1) = (i : Int) by omega, if_pos (by omega), if_pos (by omega), if_pos (by omega), if_pos (by omega), rdg d i hlt, ← hp, w64 (by omega) (by omega), w64 (by omega) (by omega), Int.toNat_natCast]
theorem shape_steps (d : List Int) : Ev (fun k => shape_Steps.f k d) (Gr.steps d) := by
  unfold Gr.steps
  by_cases h : Gr.chk d = 0
  · rw [if_pos h]
    obtain ⟨h6, h1, h2⟩ := Gr.chk_ok h
    refine Ev.congr (fun k => ?_) (steps_l d h d.length (by omega) (List.replicate d.length 0) (by simp) (by simp [Gr.stp]))
    rw [shape_Steps.f, shape_check, Option.bind_some, if_pos h, if_pos (by omega), if_pos (by simp; omega), w64 (by omega) (by omega)]
    simp [Gr.prod]
  · rw [if_neg h]
    refine Ev.congr (fun k => ?_) (Ev.now _)
    rw [shape_Steps.f, shape_check, Option.bind_some, if_neg h]
theorem contains_snoc (s : List Int) (a x : Int) : (s ++ [a]).contains x = (s.contains x || x == a) := by
  simp [List.contains_eq_mem, List.mem_append, Bool.decide_or]
  rfl
theorem marks_set (r : Nat) (s : List Int) (a : Int) (h0 : 0 ≤ a) (h1 : a < r) : (Gr.marks r s).set a.toNat true = Gr.marks r (s ++ [a]) := by
  apply List.ext_getElem (by simp [Gr.marks])
  intro j hj hj2
  simp only [Gr.marks, List.getElem_set, List.getElem_map, List.getElem_range, contains_snoc]
  by_cases e : a.toNat = j
  · rw [if_pos e, show ((j : Int) == a) = true by simp; omega, Bool.or_true]
  · rw [if_neg e, show ((j : Int) == a) = false by simp; omega, Bool.or_false]
theorem marks_at (r : Nat) (s : List Int) (a : Int) (h0 : 0 ≤ a) (h1 : a < r) : rdOf false (Gr.marks r s) a = s.contains a := by
  obtain ⟨n, rfl⟩ := Int.eq_ofNat_of_zero_le h0
  rw [rdb _ n (by simp [Gr.marks]; omega)]
  simp [Gr.marks]
theorem marks_length (r : Nat) (s : List Int) : (Gr.marks r s).length = r := by simp [Gr.marks]
theorem mks_length (r : Nat) (s : List Int) : (Gr.mks r s).length = r := by simp [Gr.mks]
theorem mks_of_ne (r : Nat) (l : List Int) (h : l ≠ []) : Gr.mks r l = Gr.marks r l := by
  unfold Gr.mks Gr.marks
  rw [show l.isEmpty = false by cases l <;> simp_all]
  simp
theorem axes_1 (r : Nat) (hr : r ≤ 6) (x : List Bool) (hx : x.length = r) : ∀ i, i ≤ r → (x.take i = List.replicate i true) →
    Ev (fun k => shape_Axes.l1 k x (r : Int) (i : Int)) (List.replicate r true, 0) := by
  intro i hi
  obtain ⟨d, hd⟩ : ∃ d, r = i + d := ⟨r - i, by omega⟩
  induction d generalizing i x with
  | zero =>
    intro h
    have : i = x.length := by omega
    subst this
    rw [List.take_length] at h
    refine Ev.step (fun k => ?_) (Ev.now _)
    rw [shape_Axes.l1, if_neg (by omega), h, hx]
  | succ d ih =>
    intro h
    refine Ev.step (fun k => ?_) (ih (x.set i true) (by simp [hx]) (i + 1) (by omega) (by omega) ?_)
    · rw [shape_Axes.l1, if_pos (by omega), if_pos (by omega), if_pos (by omega), Int.toNat_natCast, nx i r (by omega) (by omega)]
    · rw [List.take_succ_eq_append_getElem (by simp; omega), List.take_set_of_le (by omega), h, List.getElem_set_self, List.replicate_succ']
theorem axes_0 (r : Nat) (hr : r ≤ 6) (l : List Int) (hn : l.length ≤ 1000000000) : ∀ i, i ≤ l.length →
    Ev (fun k => shape_Axes.l0 k (r : Int) l (Gr.marks r (l.take i)) l (l.length : Int) (i : Int)) (if Gr.axv r (l.take i) (l.drop i) = true then (Gr.mks r l, 0) else ([], 10)) := by
  apply down
  · rw [List.take_length, List.drop_length]
    rw [if_pos (by rfl)]
    by_cases e : l = []
    · subst e
      have := axes_1 r hr (Gr.marks r []) (marks_length _ _) 0 (by omega) (by simp)
      rw [show Gr.mks r [] = List.replicate r true by
        unfold Gr.mks
        apply List.ext_getElem (by simp)
        intro j _ _; simp]
      refine Ev.step (fun k => ?_) this
      rw [shape_Axes.l0, if_neg (by simp), if_pos (by simp), marks_length]; rfl
    · rw [mks_of_ne r l e]
      have h0 : ¬ ((l.length : Int) = 0) := by
        intro h; apply e; apply List.eq_nil_of_length_eq_zero; omega
      refine Ev.step (fun k => ?_) (Ev.now _)
      rw [shape_Axes.l0, if_neg (by omega), if_neg h0]
  · intro i hi ih
    rw [dropc l i hi, Gr.axv]
    by_cases h1 : rd l (i : Int) < 0
    · rw [if_neg (by simp; omega)]
      refine Ev.step (fun k => ?_) (Ev.now _)
      rw [shape_Axes.l0, if_pos (by omega), if_pos (by omega), if_pos (by omega), if_pos h1]
    · by_cases h2 : (r : Int) ≤ rd l (i : Int)
      · rw [if_neg (by simp; omega)]
        refine Ev.step (fun k => ?_) (Ev.now _)
        rw [shape_Axes.l0, if_pos (by omega), if_pos (by omega), if_pos (by omega), if_neg h1, if_pos h2]
      · have ha := marks_at r (l.take i) (rd l (i : Int)) (by omega) (by omega)
        by_cases h3 : (l.take i).contains (rd l (i : Int)) = true
        · rw [h3, if_neg (by simp)]
          refine Ev.step (fun k => ?_) (Ev.now _)
          rw [shape_Axes.l0, if_pos (by omega), if_pos (by omega), if_pos (by omega), if_neg h1, if_neg h2, if_pos (by omega), if_pos (by rw [marks_length]; omega), ha, if_pos h3]
        · have e : l.take (i + 1) = l.take i ++ [rd l (i : Int)] := by rw [List.take_succ_eq_append_getElem hi, rdg l i hi]
          rw [e] at ih
          rw [show (decide (0 ≤ rd l (i : Int)) && decide (rd l (i : Int) < (r : Int)) && !((l.take i).contains (rd l (i : Int)))) = true by simp [h3]; simp at h3; exact ⟨by omega, h3⟩, Bool.true_and]
          refine Ev.step (fun k => ?_) ih
          rw [shape_Axes.l0, if_pos (by omega), if_pos (by omega), if_pos (by omega), if_neg h1, if_neg h2, if_pos (by omega), if_pos (by rw [marks_length]; omega), ha, if_neg h3, marks_set r _ _ (by omega) (by omega), nx i _ hi hn]
theorem shape_axes (r : Int) (l : List Int) (hn : l.length ≤ 1000000000) : Ev (fun k => shape_Axes.f k r l) (Gr.axs r l) := by
  unfold Gr.axs
  by_cases h0 : r < 0
  · rw [if_pos (.inl h0)]
    refine Ev.congr (f := fun k => shape_Axes.j0 k r l true) (fun k => by rw [shape_Axes.f, if_pos h0]) ?_
    refine Ev.step (fun k => ?_) (Ev.now _)
    rw [shape_Axes.j0, if_pos rfl]
  · refine Ev.congr (f := fun k => shape_Axes.j0 k r l (decide (r > 6))) (fun k => by rw [shape_Axes.f, if_neg h0]) ?_
    by_cases h6 : 6 < r
    · rw [if_pos (.inr h6)]
      refine Ev.step (fun k => ?_) (Ev.now _)
      rw [shape_Axes.j0, if_pos (by simpa using h6)]
    · rw [if_neg (by omega)]
      obtain ⟨n, rfl⟩ := Int.eq_ofNat_of_zero_le (show 0 ≤ r by omega)
      have := axes_0 n (by omega) l hn 0 (by omega)
      rw [List.take_zero, List.drop_zero] at this
      refine Ev.step (fun k => ?_) this
      rw [shape_Axes.j0, if_neg (by simp; omega), if_pos (by omega), if_pos (by simp; omega), Int.toNat_natCast]
      rw [show Gr.marks n [] = List.replicate n false by
        unfold Gr.marks
        apply List.ext_getElem (by simp)
        intro j _ _; simp]
      rfl
theorem axs_length (d l : List Int) (h : (Gr.axs d.length l).2 = 0) : (Gr.axs d.length l).1.length = d.length := by
  unfold Gr.axs at h ⊢
  split at h
  · simp at h
  · rename_i h1
    split at h
    · rename_i h2
      rw [if_neg h1, if_pos h2]
      simp [mks_length]
    · simp at h
theorem drop_l (keep : Bool) (m : List Bool) (d : List Int) (hm : m.length = d.length) (hn : d.length ≤ 6) : ∀ i, i ≤ d.length → ∀ o : List Int, o.length ≤ i →
    Ev (fun k => shape_Drop.l0 k keep m o d (d.length : Int) (i : Int)) (o ++ Gr.drp keep (m.drop i) (d.drop i), 0) := by
  apply down
  · intro o ho
    rw [List.drop_length, ← hm, List.drop_length]
    simp only [Gr.drp, List.append_nil]
    refine Ev.step (fun k => ?_) (Ev.now _)
    rw [shape_Drop.l0, if_neg (by omega)]
  · intro i hi ih o ho
    rw [dropc d i hi, List.drop_eq_getElem_cons (show i < m.length by omega)]
    simp only [Gr.drp]
    have hb := rdb m i (by omega)
    by_cases h1 : m[i] = true
    · rw [if_pos h1]
      by_cases h2 : keep = true
      · rw [if_pos h2]
        have := ih (o ++ [1]) (by simp; omega)
        rw [List.append_assoc, List.singleton_append] at this
        refine Ev.step (fun k => ?_) this
        rw [shape_Drop.l0, if_pos (by omega), if_pos (by omega), if_pos (by omega), if_pos (by omega), hb, if_pos h1, if_pos h2, if_pos (by omega), nx i _ hi (by omega)]
      · rw [if_neg h2]
        refine Ev.step (fun k => ?_) (ih o (by omega))
        rw [shape_Drop.l0, if_pos (by omega), if_pos (by omega), if_pos (by omega), if_pos (by omega), hb, if_pos h1, if_neg h2, nx i _ hi (by omega)]
    · rw [if_neg h1]
      have := ih (o ++ [rd d (i : Int)]) (by simp; omega)
      rw [List.append_assoc, List.singleton_append] at this
      refine Ev.step (fun k => ?_) this
      rw [shape_Drop.l0, if_pos (by omega), if_pos (by omega), if_pos (by omega), if_pos (by omega), hb, if_neg h1, if_pos (by omega), nx i _ hi (by omega)]
theorem shape_drop (d l : List Int) (keep : Bool) (hn : l.length ≤ 1000000000) : Ev (fun k => shape_Drop.f k d l keep) (Gr.drop d l keep) := by
  unfold Gr.drop
  by_cases h : Gr.chk d = 0
  · rw [if_pos h]
    refine Ev.congr (f := fun k => (shape_Axes.f k (d.length : Int) l).bind fun bt149 => if bt149.2 = 0 then shape_Drop.l0 k keep bt149.1 ([] : List Int) d (d.length : Int) 0 else some (([] : List Int), bt149.2)) (fun k => by rw [shape_Drop.f, shape_check, Option.bind_some, if_pos h]) ?_
    refine Ev.bind (shape_axes d.length l hn) ?_
    by_cases h2 : (Gr.axs d.length l).2 = 0
    · simp only [if_pos h2]
      have := drop_l keep (Gr.axs d.length l).1 d (axs_length d l h2) (Gr.chk_ok h).1 0 (by omega) [] (by simp)
      rw [List.drop_zero, List.drop_zero, List.nil_append] at this
      exact this
    · simp only [if_neg h2]
      exact Ev.now _
  · rw [if_neg h]
    refine Ev.congr (fun k => ?_) (Ev.now _)
    rw [shape_Drop.f, shape_check, Option.bind_some, if_neg h]
theorem axv_all (r : Int) (s l : List Int) (h : Gr.axv r s l = true) : ∀ a ∈ l, 0 ≤ a ∧ a < r := by
  induction l generalizing s with
  | nil => simp
  | cons x l ih =>
    simp only [Gr.axv, Bool.and_eq_true, decide_eq_true_eq] at h
    intro a ha
    rcases List.mem_cons.1 ha with rfl | ha
    · exact ⟨h.1.1.1, h.1.1.2⟩
    · exact ih _ h.2 a ha
theorem axs_all (d l : List Int) (h : (Gr.axs d.length l).2 = 0) : ∀ a ∈ l, 0 ≤ a ∧ a < (d.length : Int) := by
  unfold Gr.axs at h
  split at h
  · simp at h
  · split at h
    · rename_i h2; exact axv_all _ _ _ h2
    · simp at h
theorem axs_err (d l : List Int) (hd : d.length ≤ 6) (h : ¬ (Gr.axs d.length l).2 = 0) : Gr.axs d.length l = ([], 10) := by
  unfold Gr.axs at h ⊢
  rw [if_neg (by omega)] at h ⊢
  split
  · rename_i h2; rw [if_pos h2] at h; simp at h
  · rfl
theorem at0_rd (d : List Int) (a : Int) : Gr.at0 d a = rd d a := rfl
theorem perm_l (d l : List Int) (hall : ∀ a ∈ l, 0 ≤ a ∧ a < (d.length : Int)) (hn : l.length ≤ 6) : ∀ i, i ≤ l.length → ∀ o : List Int, o.length ≤ i →
    Ev (fun k => shape_Perm.l0 k d o l (l.length : Int) (i : Int)) (o ++ Gr.prm d (l.drop i), 0) := by
  apply down
  · intro o ho
    rw [List.drop_length]
    simp only [Gr.prm, List.map_nil, List.append_nil]
    refine Ev.step (fun k => ?_) (Ev.now _)
    rw [shape_Perm.l0, if_neg (by omega)]
  · intro i hi ih o ho
    have ha := hall (rd l (i : Int)) (by rw [rdg l i hi]; exact List.getElem_mem hi)
    rw [dropc l i hi]
    have := ih (o ++ [rd d (rd l (i : Int))]) (by simp; omega)
    rw [List.append_assoc, List.singleton_append] at this
    refine Ev.step (fun k => ?_) this
    rw [shape_Perm.l0, if_pos (by omega), if_pos (by omega), if_pos (by omega), if_pos (by omega), if_pos (by omega), if_pos (by omega), nx i _ hi (by omega)]
theorem shape_perm (d l : List Int) (hn : l.length ≤ 1000000000) : Ev (fun k => shape_Perm.f k d l) (Gr.perm d l) := by
  unfold Gr.perm
  by_cases h : Gr.chk d = 0
  · rw [if_pos h]
    have h6 := (Gr.chk_ok h).1
    by_cases hl : l.length = d.length
    · refine Ev.congr (f := fun k => (shape_Axes.f k (d.length : Int) l).bind fun bt179 => if bt179.2 = 0 then shape_Perm.l0 k d ([] : List Int) l (l.length : Int) 0 else some (([] : List Int), bt179.2)) (fun k => by rw [shape_Perm.f, shape_check, Option.bind_some, if_pos h, if_pos (by omega)]) ?_
      refine Ev.bind (shape_axes d.length l hn) ?_
      by_cases h2 : (Gr.axs d.length l).2 = 0
      · simp only [if_pos h2]
        rw [if_pos ⟨hl, h2⟩]
        have := perm_l d l (axs_all d l h2) (by omega) 0 (by omega) [] (by simp)
        rw [List.drop_zero, List.nil_append] at this
        exact this
      · simp only [if_neg h2]
        rw [if_neg (fun hh => h2 hh.2), axs_err d l h6 h2]
        exact Ev.now _
    · rw [if_neg (fun hh => hl hh.1)]
      refine Ev.congr (fun k => ?_) (Ev.now _)
      rw [shape_Perm.f, shape_check, Option.bind_some, if_pos h, if_neg (by omega)]
  · rw [if_neg h]
    refine Ev.congr (fun k => ?_) (Ev.now _)
    rw [shape_Perm.f, shape_check, Option.bind_some, if_neg h]
theorem withp (d : List Int) (a s : Int) : Ev (fun k => shape_With.f k d a s) (Gr.withd d a s) := by
  unfold Gr.withd
  by_cases h : Gr.chk d = 0
  · have h6 := (Gr.chk_ok h).1
    rw [if_pos h]
    by_cases h0 : a < 0
    · rw [if_pos (.inl h0)]
      refine Ev.congr (fun k => by rw [shape_With.f, shape_check, Option.bind_some, if_pos h, if_pos h0]) ?_
      refine Ev.step (fun k => ?_) (Ev.now _)
      rw [shape_With.j0, if_pos rfl]
    · refine Ev.congr (fun k => by rw [shape_With.f, shape_check, Option.bind_some, if_pos h, if_neg h0]) ?_
      by_cases h1 : (d.length : Int) ≤ a
      · rw [if_pos (.inr h1)]
        refine Ev.step (fun k => ?_) (Ev.now _)
        rw [shape_With.j0, if_pos (decide_eq_true h1)]
      · rw [if_neg (by omega)]
        refine Ev.step (fun k => ?_) (Ev.now _)
        rw [shape_With.j0, if_neg (by simp; omega), slices_Clone_int_int.f, if_pos (by omega), Option.bind_some, if_pos (by omega), if_pos (by omega), Option.bind_some, shape_check, Option.bind_some]
        split <;> rfl
  · rw [if_neg h]
    refine Ev.congr (fun k => ?_) (Ev.now _)
    rw [shape_With.f, shape_check, Option.bind_some, if_neg h]
theorem rdl (l : List (List Int)) (i : Nat) (h : i < l.length) : rd_L1 l (i : Int) = l[i] := by
  simp [rd_L1, List.getD_eq_getElem?_getD, List.getElem?_eq_getElem h]
theorem move_put_l (x : List Int) (n a a2 a3 a4 a5 a6 a7 : Int) (a8 : Bool) (l : List Int) (hn : l.length ≤ 1000000000) : ∀ i, i ≤ l.length →
    Ev (fun k => move_put.l0 k x l (l.length : Int) (i : Int) n a a2 a3 a4 a5 a6 a7 a8 l) (if Gr.inr (l.drop i) a = true then (x, 0) else ([], 11)) := by
  apply down
  · rw [List.drop_length]
    refine Ev.step (fun k => ?_) (Ev.now _)
    rw [move_put.l0, if_neg (by omega)]; rfl
  · intro i hi ih
    have e := Gr.inr_cons (rd l (i : Int)) (l.drop (i + 1)) a
    rw [dropc l i hi]
    by_cases h0 : rd l (i : Int) < 0
    · rw [if_neg (fun c => absurd (e.1 c).1.1 (by omega))]
      refine Ev.step (fun k => ?_) (Ev.now _)
      rw [move_put.l0, if_pos (by omega), if_pos (by omega), if_pos (by omega), if_pos h0]
    · by_cases h1 : a ≤ rd l (i : Int)
      · rw [if_neg (fun c => absurd (e.1 c).1.2 (by omega))]
        refine Ev.step (fun k => ?_) (Ev.now _)
        rw [move_put.l0, if_pos (by omega), if_pos (by omega), if_pos (by omega), if_neg h0, if_pos h1]
      · rw [show Gr.inr (rd l (i : Int) :: l.drop (i + 1)) a = Gr.inr (l.drop (i + 1)) a by rw [Bool.eq_iff_iff, e]; exact ⟨fun h => h.2, fun h => ⟨⟨by omega, by omega⟩, h⟩⟩]
        refine Ev.step (fun k => ?_) ih
        rw [move_put.l0, if_pos (by omega), if_pos (by omega), if_pos (by omega), if_neg h0, if_neg h1, nx i _ hi hn]
theorem mput (d : List Int) (n a a2 a3 a4 a5 a6 a7 : Int) (a8 : Bool) (l : List Int) (hn : l.length ≤ 1000000000) : Ev (fun k => move_put.f k d n a a2 a3 a4 a5 a6 a7 a8 l) (Gr.putd d n a l) := by
  refine Ev.congr (fun k => by rw [move_put.f]) (Ev.bind (withp d n a) ?_)
  unfold Gr.putd
  by_cases h : (Gr.withd d n a).2 = 0
  · obtain ⟨w1, w2, w3, w4, w5⟩ := Gr.withd_o29 h
    rw [if_pos h]
    simp only [if_pos h, if_pos w2, if_pos w3]
    by_cases h2 : (l.length : Int) = Gr.at0 d n
    · rw [if_pos h2]
      refine Ev.congr (fun k => by rw [← at0_rd, if_pos h2]) ?_
      have := move_put_l (Gr.withd d n a).1 n a a2 a3 a4 a5 a6 a7 a8 l hn 0 (by omega)
      rwa [List.drop_zero] at this
    · rw [if_neg h2]
      exact Ev.congr (fun k => by rw [← at0_rd, if_neg h2]) (Ev.now _)
  · rw [if_neg h]
    exact Ev.congr (fun k => by rw [if_neg h]) (Ev.now _)
theorem move_taken_l (d : List Int) (n a a2 a3 a4 a5 a6 a7 : Int) (a8 : Bool) (l : List Int) (hn : l.length ≤ 1000000000) (h0 : 0 ≤ n) (h1 : n < (d.length : Int)) : ∀ i, i ≤ l.length →
    Ev (fun k => move_taken.l0 k d l (l.length : Int) (i : Int) n a a2 a3 a4 a5 a6 a7 a8 l) (if Gr.inr (l.drop i) (Gr.at0 d n) = true then Gr.withd d n (l.length : Int) else ([], 11)) := by
  apply down
  · rw [List.drop_length]
    refine Ev.step (fun k => by rw [move_taken.l0, if_neg (by omega)]) (Ev.bind (withp d n (l.length : Int)) ?_)
    exact Ev.now _
  · intro i hi ih
    have e := Gr.inr_cons (rd l (i : Int)) (l.drop (i + 1)) (Gr.at0 d n)
    rw [dropc l i hi]
    by_cases g0 : rd l (i : Int) < 0
    · rw [if_neg (fun c => absurd (e.1 c).1.1 (by omega))]
      refine Ev.step (fun k => ?_) (Ev.now _)
      rw [move_taken.l0, if_pos (by omega), if_pos (by omega), if_pos (by omega), if_pos g0]
    · by_cases g1 : Gr.at0 d n ≤ rd l (i : Int)
      · rw [if_neg (fun c => absurd (e.1 c).1.2 (by omega))]
        refine Ev.step (fun k => ?_) (Ev.now _)
        rw [move_taken.l0, if_pos (by omega), if_pos (by omega), if_pos (by omega), if_neg g0, if_pos h0, if_pos h1, ← at0_rd d, if_pos g1]
      · rw [show Gr.inr (rd l (i : Int) :: l.drop (i + 1)) (Gr.at0 d n) = Gr.inr (l.drop (i + 1)) (Gr.at0 d n) by rw [Bool.eq_iff_iff, e]; exact ⟨fun h => h.2, fun h => ⟨⟨by omega, by omega⟩, h⟩⟩]
        refine Ev.step (fun k => ?_) ih
        rw [move_taken.l0, if_pos (by omega), if_pos (by omega), if_pos (by omega), if_neg g0, if_pos h0, if_pos h1, ← at0_rd d, if_neg g1, nx i _ hi hn]
theorem mtaken (d : List Int) (n a a2 a3 a4 a5 a6 a7 : Int) (a8 : Bool) (l : List Int) (hn : l.length ≤ 1000000000) : Ev (fun k => move_taken.f k d n a a2 a3 a4 a5 a6 a7 a8 l) (Gr.takd d n l) := by
  unfold Gr.takd
  by_cases h0 : n < 0
  · rw [if_pos (.inl h0)]
    refine Ev.congr (fun k => by rw [move_taken.f, if_pos h0]) (Ev.step (fun k => ?_) (Ev.now _))
    rw [move_taken.j0, if_pos rfl]
  · refine Ev.congr (fun k => by rw [move_taken.f, if_neg h0]) ?_
    by_cases h1 : (d.length : Int) ≤ n
    · rw [if_pos (.inr h1)]
      refine Ev.step (fun k => ?_) (Ev.now _)
      rw [move_taken.j0, if_pos (decide_eq_true h1)]
    · rw [if_neg (by omega)]
      refine Ev.step (fun k => by rw [move_taken.j0, if_neg (by simp; omega)]) ?_
      have := move_taken_l d n a a2 a3 a4 a5 a6 a7 a8 l hn (by omega) (by omega) 0 (by omega)
      rwa [List.drop_zero] at this
theorem mx_gr (a b : Int) : mx a b = Gr.mx a b := rfl
theorem size_at (l : List Int) (n : Nat) (hl : l.length ≤ n) (hn : n ≤ 6) (i : Nat) (hi : i < n) : spread_size.f l (((n - i : Nat)) : Int) = some ((Gr.pad n l)[i]'(by rw [Gr.pad_length n l hl]; exact hi)) := by
  rw [spread_size.f, Gr.pad_at n l hl i hi]
  by_cases h : n - l.length ≤ i
  · rw [dif_pos h, if_neg (by omega), w64 (by omega) (by omega), if_pos (by omega), if_pos (by omega), show ((l.length : Int) - ((n - i : Nat) : Int)) = ((i - (n - l.length) : Nat) : Int) by omega, rdg l _ (by omega)]
  · rw [dif_neg h, if_pos (by omega)]
theorem mxs_drop (p q : List Int) (i : Nat) (hp : i < p.length) (hq : i < q.length) : (Gr.mxs p q).drop i = Gr.mx p[i] q[i] :: (Gr.mxs p q).drop (i + 1) := by
  induction i generalizing p q with
  | zero =>
    cases p with
    | nil => simp at hp
    | cons x p =>
      cases q with
      | nil => simp at hq
      | cons y q => rfl
  | succ i ih =>
    cases p with
    | nil => simp at hp
    | cons x p =>
      cases q with
      | nil => simp at hq
      | cons y q =>
        have := ih p q (by simpa using hp) (by simpa using hq)
        simpa [Gr.mxs] using this
theorem fitz_at (p q : List Int) (i : Nat) (hp : i < p.length) (hq : i < q.length) (h : Gr.fitz p q = true) : p[i] = q[i] ∨ p[i] = 1 ∨ q[i] = 1 := by
  have := Gr.fitz_drop p q i h
  rw [List.drop_eq_getElem_cons hp, List.drop_eq_getElem_cons hq] at this
  simp only [Gr.fitz, Bool.and_eq_true, Bool.or_eq_true, beq_iff_eq] at this
  rcases this.1 with (h | h) | h
  · exact .inl h
  · exact .inr (.inl h)
  · exact .inr (.inr h)
theorem fitz_drop_of (p q : List Int) (i : Nat) (hp : i < p.length) (hq : i < q.length) (h1 : p[i] = q[i] ∨ p[i] = 1 ∨ q[i] = 1) (h : Gr.fitz (p.drop (i + 1)) (q.drop (i + 1)) = true) : Gr.fitz (p.drop i) (q.drop i) = true := by
  rw [List.drop_eq_getElem_cons hp, List.drop_eq_getElem_cons hq]
  simp only [Gr.fitz, Bool.and_eq_true, Bool.or_eq_true, beq_iff_eq]
  refine ⟨?_, h⟩
  rcases h1 with h | h | h
  · exact .inl (.inl h)
  · exact .inl (.inr h)
  · exact .inr h
theorem two_l1 (a b : List Int) (n : Nat) (ha : a.length ≤ n) (hb : b.length ≤ n) (hn : n ≤ 6) : ∀ i, i ≤ n → ∀ x : List Int, x.length = n → x.drop i = (Gr.mxs (Gr.pad n a) (Gr.pad n b)).drop i →
    Gr.fitz ((Gr.pad n a).drop i) ((Gr.pad n b).drop i) = true →
    Ev (fun k => spread_Two.l1 k a b (n : Int) x (((n - i : Nat) : Int) + 1)) (Gr.tw (Gr.pad n a) (Gr.pad n b)) := by
  have la := Gr.pad_length n a ha
  have lb := Gr.pad_length n b hb
  intro i
  induction i with
  | zero =>
    intro hi x hl hx hf
    simp only [List.drop_zero] at hx hf
    subst hx
    unfold Gr.tw
    rw [if_pos hf]
    by_cases hc : Gr.chk (Gr.mxs (Gr.pad n a) (Gr.pad n b)) = 0
    · rw [if_pos hc]
      refine Ev.step (fun k => ?_) (Ev.now _)
      rw [spread_Two.l1, if_neg (by omega), shape_check, Option.bind_some, if_pos hc]
    · rw [if_neg hc]
      refine Ev.step (fun k => ?_) (Ev.now _)
      rw [spread_Two.l1, if_neg (by omega), shape_check, Option.bind_some, if_neg hc]
  | succ i ih =>
    intro hi x hl hx hf
    have hlt : i < n := by omega
    have sa := size_at a n ha hn i hlt
    have sb := size_at b n hb hn i hlt
    have ei : (((n - (i + 1) : Nat) : Int) + 1) = ((n - i : Nat) : Int) := by omega
    have ei2 : (n : Int) - ((n - i : Nat) : Int) = (i : Int) := by omega
    rw [ei]
    by_cases hfit : (Gr.pad n a)[i] = (Gr.pad n b)[i] ∨ (Gr.pad n a)[i] = 1 ∨ (Gr.pad n b)[i] = 1
    · have hnew := ih (by omega) (x.set i (Gr.mx (Gr.pad n a)[i] (Gr.pad n b)[i])) (by simp [hl]) (by
        rw [List.drop_eq_getElem_cons (by simp; omega), mxs_drop _ _ i (by omega) (by omega)]
        simp only [List.getElem_set_self, List.cons.injEq, true_and]
        rw [List.drop_set_of_lt (by omega)]
        exact hx) (fitz_drop_of _ _ i (by omega) (by omega) hfit hf)
      refine Ev.step (fun k => ?_) hnew
      rw [spread_Two.l1, if_pos (by omega), sa, Option.bind_some, sb, Option.bind_some, ei2, w64 (x := (i : Int)) (by omega) (by omega), w64 (by omega) (by omega)]
      simp only [if_pos (show (0 : Int) ≤ (i : Int) by omega), if_pos (show (i : Int) < (x.length : Int) by omega), Int.toNat_natCast, mx_gr]
      by_cases e1 : (Gr.pad n a)[i] = (Gr.pad n b)[i]
      · rw [if_pos e1]
      · rw [if_neg e1]
        by_cases e2 : (Gr.pad n a)[i] = 1
        · rw [if_pos e2]
        · rw [if_neg e2, if_pos (by rcases hfit with h | h | h <;> first | exact absurd h e1 | exact absurd h e2 | exact h)]
    · unfold Gr.tw
      rw [if_neg (fun h => hfit (fitz_at _ _ i (by omega) (by omega) h))]
      refine Ev.step (fun k => ?_) (Ev.now _)
      rw [spread_Two.l1, if_pos (by omega), sa, Option.bind_some, sb, Option.bind_some, if_neg (fun h => hfit (.inl h)), if_neg (fun h => hfit (.inr (.inl h))), if_neg (fun h => hfit (.inr (.inr h)))]
theorem two (a b : List Int) : Ev (fun k => spread_Two.f k a b) (Gr.two a b) := by
  unfold Gr.two
  refine Ev.congr (f := fun k => spread_Two.l0 k a b [a, b] 2 0) (fun k => by rw [spread_Two.f, Option.bind_some]; rfl) ?_
  have r0 : rd_L1 [a, b] 0 = a := rfl
  have r1 : rd_L1 [a, b] 1 = b := rfl
  by_cases ha : Gr.chk a = 0
  · rw [if_pos ha]
    have h6 := (Gr.chk_ok ha).1
    refine Ev.step (f := fun k => spread_Two.l0 k a b [a, b] 2 1) (fun k => by rw [spread_Two.l0, if_pos (by omega), if_pos (by omega), if_pos (by simp), r0, shape_check, Option.bind_some, if_pos ha, w64 (by omega) (by omega)]; rfl) ?_
    by_cases hb : Gr.chk b = 0
    · rw [if_pos hb]
      have k6 := (Gr.chk_ok hb).1
      refine Ev.step (f := fun k => spread_Two.l0 k a b [a, b] 2 2) (fun k => by rw [spread_Two.l0, if_pos (by omega), if_pos (by omega), if_pos (by simp), r1, shape_check, Option.bind_some, if_pos hb, w64 (by omega) (by omega)]; rfl) ?_
      have hm : mx (a.length : Int) (b.length : Int) = (Gr.rank2 a b : Int) := by unfold mx Gr.rank2; split <;> omega
      have := two_l1 a b (Gr.rank2 a b) (by unfold Gr.rank2; omega) (by unfold Gr.rank2; omega) (by unfold Gr.rank2; omega) (Gr.rank2 a b) (by omega) (List.replicate (Gr.rank2 a b) 0) (by simp) (by
        rw [List.drop_of_length_le (by simp), List.drop_of_length_le]
        rw [Gr.mxs_length, Gr.pad_length _ _ (by unfold Gr.rank2; omega)]; omega
        rw [Gr.pad_length _ _ (by unfold Gr.rank2; omega), Gr.pad_length _ _ (by unfold Gr.rank2; omega)]) (by
        rw [List.drop_of_length_le (by rw [Gr.pad_length _ _ (by unfold Gr.rank2; omega)]; omega)]; rfl)
      rw [show (((Gr.rank2 a b - Gr.rank2 a b : Nat) : Int) + 1) = 1 by omega] at this
      refine Ev.step (fun k => ?_) this
      rw [spread_Two.l0, if_neg (by omega), hm, if_pos (by omega), if_pos (by unfold Gr.rank2; omega), Int.toNat_natCast]
    · rw [if_neg hb]
      refine Ev.step (fun k => ?_) (Ev.now _)
      rw [spread_Two.l0, if_pos (by omega), if_pos (by omega), if_pos (by simp), r1, shape_check, Option.bind_some, if_neg hb]
  · rw [if_neg ha]
    refine Ev.step (fun k => ?_) (Ev.now _)
    rw [spread_Two.l0, if_pos (by omega), if_pos (by omega), if_pos (by simp), r0, shape_check, Option.bind_some, if_neg ha]
theorem equal_l (a b : List Int) (hl : a.length = b.length) (hn : a.length ≤ 1000000000) : ∀ i, i ≤ a.length →
    Ev (fun k => slices_Equal_int_int.l0 k a b (a.length : Int) (i : Int)) (decide (a.drop i = b.drop i)) := by
  apply down
  · refine Ev.step (f := fun _ => some true) (fun k => ?_) ?_
    · rw [slices_Equal_int_int.l0, if_neg (by omega)]
    · rw [List.drop_length, hl, List.drop_length]; exact Ev.now true
  · intro i hi ih
    rw [dropc a i hi, dropc b i (by omega)]
    by_cases e : rd a (i : Int) = rd b (i : Int)
    · rw [show decide (rd a (i : Int) :: a.drop (i + 1) = rd b (i : Int) :: b.drop (i + 1)) = decide (a.drop (i + 1) = b.drop (i + 1)) by simp [e]]
      refine Ev.step (fun k => ?_) ih
      rw [slices_Equal_int_int.l0, if_pos (by omega), if_pos (by omega), if_pos (by omega), if_pos (by omega), if_pos e, nx i _ hi hn]
    · rw [show decide (rd a (i : Int) :: a.drop (i + 1) = rd b (i : Int) :: b.drop (i + 1)) = false by simp [e]]
      refine Ev.step (fun k => ?_) (Ev.now false)
      rw [slices_Equal_int_int.l0, if_pos (by omega), if_pos (by omega), if_pos (by omega), if_pos (by omega), if_neg e]
theorem equal (a b : List Int) (hn : a.length ≤ 1000000000) : Ev (fun k => slices_Equal_int_int.f k a b) (decide (a = b)) := by
  by_cases hl : a.length = b.length
  · refine Ev.congr (fun k => ?_) (by have := equal_l a b hl hn 0 (by omega); simpa using this)
    rw [slices_Equal_int_int.f, if_pos (by omega)]
  · rw [show decide (a = b) = false from decide_eq_false (fun e => hl (by rw [e]))]
    refine Ev.congr (fun k => ?_) (Ev.now false)
    rw [slices_Equal_int_int.f, if_neg (by omega)]
theorem two_fst_le (a b : List Int) : (Gr.two a b).1.length ≤ 6 := by
  unfold Gr.two
  split
  · split
    · unfold Gr.tw
      split
      · split
        · rename_i h; exact (Gr.chk_ok h).1
        · simp
      · simp
    · simp
  · simp
theorem fits (a b : List Int) : Ev (fun k => spread_Fits.f k a b) (Gr.fts a b) := by
  refine Ev.congr (fun k => by rw [spread_Fits.f]) (Ev.bind (two a b) ?_)
  unfold Gr.fts
  by_cases h : (Gr.two a b).2 = 0
  · simp only [if_pos h]
    rw [decide_eq_true h, Bool.true_and]
    refine Ev.bind (f := fun k t => some t) ?_ (Ev.now _)
    refine Ev.congr (fun k => by rw [shape_Same.f]) (Ev.bind (f := fun k t => some t) (equal _ _ (by have := two_fst_le a b; omega)) (Ev.now _))
  · simp only [if_neg h]
    rw [decide_eq_false h, Bool.false_and]
    exact Ev.now _
theorem mul_bound {a t : Int} (h0 : 0 ≤ a) (h1 : a ≤ 63) (ht : a = 0 ∨ (-64 < t ∧ t < 64)) : -4000 ≤ a * t ∧ a * t ≤ 4000 := by
  rcases ht with rfl | ⟨t0, t1⟩
  · simp
  · have e1 : a * t ≤ a * 63 := Int.mul_le_mul_of_nonneg_left (by omega) h0
    have e2 : a * (-63) ≤ a * t := Int.mul_le_mul_of_nonneg_left (by omega) h0
    omega
theorem right_l (o : Int) (d s : List Int) (room : Int) (hok : Gr.chk d = 0) (hl : s.length = d.length) (hr0 : 1 ≤ room) (hr : room ≤ 64) : ∀ i, i ≤ d.length → ∀ lo hi : Int, -(64 + 4096 * (i : Int)) ≤ lo → lo ≤ 64 + 4096 * (i : Int) → -(64 + 4096 * (i : Int)) ≤ hi → hi ≤ 64 + 4096 * (i : Int) →
    Ev (fun k => view_Right.l0 k room lo hi d (d.length : Int) (i : Int) o d s) (Gr.sok room (d.drop i) (s.drop i) && decide (0 ≤ lo + Gr.low (d.drop i) (s.drop i)) && decide (hi + Gr.hgh (d.drop i) (s.drop i) < room)) := by
  obtain ⟨h6, h1, h2⟩ := Gr.chk_ok hok
  apply down
  · intro lo hi a1 a2 a3 a4
    rw [List.drop_length, ← hl, List.drop_length]
    simp only [Gr.sok, Gr.low, Gr.hgh, Bool.true_and, Int.add_zero]
    by_cases h : lo ≥ 0
    · rw [decide_eq_true (show 0 ≤ lo from h), Bool.true_and]
      refine Ev.step (fun k => ?_) (Ev.now _)
      rw [view_Right.l0, if_neg (by omega), if_pos h]
    · rw [decide_eq_false (show ¬ 0 ≤ lo from h), Bool.false_and]
      refine Ev.step (fun k => ?_) (Ev.now _)
      rw [view_Right.l0, if_neg (by omega), if_neg h]
  · intro i hi ih lo hg a1 a2 a3 a4
    have hx := h1 _ (List.getElem_mem hi)
    have hx2 := Gr.ok_le hok _ (List.getElem_mem hi)
    rw [← rdg d i hi] at hx hx2
    rw [dropc d i hi, dropc s i (by omega)]
    simp only [Gr.sok, Gr.low, Gr.hgh]
    by_cases e1 : rd d (i : Int) = 1
    · have := ih lo hg (by omega) (by omega) (by omega) (by omega)
      rw [e1]
      simp only [Int.le_refl, decide_true, Bool.true_or, Bool.true_and, Int.sub_self, Int.zero_mul, Int.lt_irrefl, if_false, Int.zero_add]
      refine Ev.step (fun k => ?_) this
      rw [view_Right.l0, if_pos (by omega), if_pos (by omega), if_pos (by omega), if_pos (by omega), view_reach.f, if_pos e1, Option.bind_some, if_pos rfl, nx i _ hi (by omega), show mn 0 0 = 0 by decide, show mx 0 0 = 0 by decide, Int.add_zero, Int.add_zero, w64 (by omega) (by omega), w64 (by omega) (by omega)]
    · rw [decide_eq_false (show ¬ rd d (i : Int) ≤ 1 by omega), Bool.false_or]
      have hwr : wrap64 (-room) = -room := w64 (by omega) (by omega)
      by_cases e2 : rd s (i : Int) ≥ room
      · rw [decide_eq_false (show ¬ rd s (i : Int) < room by omega), Bool.and_false, Bool.false_and, Bool.false_and, Bool.false_and]
        refine Ev.step (fun k => ?_) (Ev.now _)
        rw [view_Right.l0, if_pos (by omega), if_pos (by omega), if_pos (by omega), if_pos (by omega), view_reach.f, if_neg e1, if_pos e2, Option.bind_some, if_neg (by simp)]
      · by_cases e3 : rd s (i : Int) ≤ -room
        · rw [decide_eq_false (show ¬ -room < rd s (i : Int) by omega), Bool.false_and, Bool.false_and, Bool.false_and, Bool.false_and]
          refine Ev.step (fun k => ?_) (Ev.now _)
          rw [view_Right.l0, if_pos (by omega), if_pos (by omega), if_pos (by omega), if_pos (by omega), view_reach.f, if_neg e1, if_neg e2, hwr, if_pos e3, Option.bind_some, if_neg (by simp)]
        · obtain ⟨b1, b2⟩ := mul_bound (a := rd d (i : Int) - 1) (t := rd s (i : Int)) (by omega) (by omega) (.inr ⟨by omega, by omega⟩)
          rw [decide_eq_true (show -room < rd s (i : Int) by omega), decide_eq_true (show rd s (i : Int) < room by omega), Bool.true_and, Bool.true_and]
          have hwm : wrap64 (wrap64 (rd d (i : Int) - 1) * rd s (i : Int)) = (rd d (i : Int) - 1) * rd s (i : Int) := by rw [w64 (x := rd d (i : Int) - 1) (by omega) (by omega), w64 (by omega) (by omega)]
          obtain ⟨m, hm⟩ : ∃ m, (rd d (i : Int) - 1) * rd s (i : Int) = m := ⟨_, rfl⟩
          rw [hm] at b1 b2 hwm
          simp only [hm]
          have hmn : mn m 0 = if m < 0 then m else 0 := by unfold mn; split <;> split <;> omega
          have hmx : mx m 0 = if m < 0 then 0 else m := by unfold mx; rfl
          have hlo : wrap64 (lo + mn m 0) = lo + if m < 0 then m else 0 := by rw [hmn, w64] <;> split <;> omega
          have hhg : wrap64 (hg + mx m 0) = hg + if m < 0 then 0 else m := by rw [hmx, w64] <;> split <;> omega
          have := ih (lo + if m < 0 then m else 0) (hg + if m < 0 then 0 else m) (by split <;> omega) (by split <;> omega) (by split <;> omega) (by split <;> omega)
          rw [← Int.add_assoc, ← Int.add_assoc]
          refine Ev.step (fun k => ?_) this
          rw [view_Right.l0, if_pos (by omega), if_pos (by omega), if_pos (by omega), if_pos (by omega), view_reach.f, if_neg e1, if_neg e2, hwr, if_neg e3, hwm, Option.bind_some, if_pos rfl, nx i _ hi (by omega), hlo, hhg]
theorem view_rgt (o : Int) (d s : List Int) (room : Int) : Ev (fun k => view_Right.f k o d s room) (Gr.rgt o d s room) := by
  have no : ¬ Gr.vok o d s room → Gr.rgt o d s room = false := fun h => by unfold Gr.rgt; rw [decide_eq_false h]; rfl
  have stop : ¬ Gr.vok o d s room → Ev (fun k => view_Right.j0 k room true o d s) (Gr.rgt o d s room) := fun h => by
    rw [no h]
    refine Ev.step (fun k => ?_) (Ev.now _)
    rw [view_Right.j0, if_pos rfl]
  refine Ev.congr (fun k => by rw [view_Right.f, shape_check, Option.bind_some]) ?_
  by_cases h1 : Gr.chk d = 0
  · simp only [if_pos h1]
    by_cases h2 : (s.length : Int) = (d.length : Int)
    · simp only [if_pos h2]
      by_cases h3 : room > 64
      · simp only [if_pos h3]; exact stop (fun hv => by have := hv.2.2.1; omega)
      · simp only [if_neg h3]
        by_cases h4 : o < 0
        · simp only [if_pos h4]; exact stop (fun hv => by have := hv.2.2.2.1; omega)
        · simp only [if_neg h4]
          by_cases h5 : o ≥ room
          · rw [decide_eq_true h5]; exact stop (fun hv => by have := hv.2.2.2.2.1; omega)
          · rw [decide_eq_false h5]
            have := right_l o d s room h1 (by omega) (by omega) (by omega) 0 (by omega) o o (by omega) (by omega) (by omega) (by omega)
            rw [List.drop_zero, List.drop_zero] at this
            have e : Gr.rgt o d s room = (Gr.sok room d s && decide (0 ≤ o + Gr.low d s) && decide (o + Gr.hgh d s < room)) := by
              have hd : decide (Gr.vok o d s room) = Gr.sok room d s := by
                by_cases hs : Gr.sok room d s = true
                · exact (decide_eq_true ⟨h1, by omega, by omega, by omega, by omega, hs⟩).trans hs.symm
                · exact (decide_eq_false (fun hv => hs hv.2.2.2.2.2)).trans (Bool.eq_false_iff.2 hs).symm
              unfold Gr.rgt; rw [hd]
            rw [e]
            refine Ev.step (fun k => ?_) this
            rw [view_Right.j0, if_neg (by simp)]; rfl
    · simp only [if_neg h2]; exact stop (fun hv => by have := hv.2.1; omega)
  · simp only [if_neg h1]; exact stop (fun hv => h1 hv.1)
theorem view_rgt64 (o : Int) (d s : List Int) : Ev (fun k => view_right.f k o d s) (Gr.rgt o d s 64) :=
  Ev.congr (fun k => by rw [view_right.f]) (Ev.bind (view_rgt o d s 64) (Ev.now _))
theorem rws_drop {d s : List Int} (h : Gr.rws d s = true) : ∀ i, Gr.rws (d.drop i) (s.drop i) = true := by
  intro i
  induction i generalizing d s with
  | zero => simpa using h
  | succ i ih =>
    cases d with
    | nil => simp [Gr.rws]
    | cons x d =>
      cases s with
      | nil => simp; cases d.drop i <;> rfl
      | cons t s =>
        simp only [Gr.rws, Bool.and_eq_true] at h
        simpa using ih h.1
theorem vrow_l (o : Int) (d s : List Int) (hok : Gr.chk d = 0) (hl : s.length = d.length) : ∀ i, i ≤ d.length → Gr.rws (d.drop i) (s.drop i) = true →
    Ev (fun k => view_Row.l0 k (Gr.prod (d.drop i)) ((i : Int) - 1) o d s) (Gr.rws d s) := by
  obtain ⟨h6, h1, h2⟩ := Gr.chk_ok hok
  intro i
  induction i with
  | zero =>
    intro _ h
    rw [List.drop_zero, List.drop_zero] at h
    rw [h]
    refine Ev.step (fun k => ?_) (Ev.now _)
    rw [view_Row.l0, if_neg (by omega)]
  | succ i ih =>
    intro hi h
    have hlt : i < d.length := by omega
    have hd : d.drop i = rd d (i : Int) :: d.drop (i + 1) := dropc d i hlt
    have hs : s.drop i = rd s (i : Int) :: s.drop (i + 1) := dropc s i (by omega)
    have hx : 1 ≤ rd d (i : Int) := by rw [rdg d i hlt]; exact h1 _ (List.getElem_mem hlt)
    have hx2 : rd d (i : Int) ≤ 64 := by rw [rdg d i hlt]; exact Gr.ok_le hok _ (List.getElem_mem hlt)
    have hp := Gr.prod_pos (d.drop (i + 1)) (fun y hy => h1 y (List.mem_of_mem_drop hy))
    have hpi := (Gr.chk_ok (Gr.ok_drop hok i)).2.2
    have hpe : Gr.prod (d.drop i) = rd d (i : Int) * Gr.prod (d.drop (i + 1)) := by rw [hd]; rfl
    rw [hpe] at ih hpi
    have hw : wrap64 (Gr.prod (d.drop (i + 1)) * rd d (i : Int)) = rd d (i : Int) * Gr.prod (d.drop (i + 1)) := by
      have : 0 ≤ rd d (i : Int) * Gr.prod (d.drop (i + 1)) := Int.mul_nonneg (by omega) (by omega)
      rw [Int.mul_comm, w64 (by omega) (by omega)]
    have hri : Gr.rws (d.drop i) (s.drop i) = (decide (rd d (i : Int) ≤ 1) || decide (rd s (i : Int) = Gr.prod (d.drop (i + 1)))) := by
      rw [hd, hs]; simp only [Gr.rws, h, Bool.true_and]
    by_cases e1 : rd d (i : Int) > 1
    · by_cases e2 : rd s (i : Int) = Gr.prod (d.drop (i + 1))
      · refine Ev.step (fun k => ?_) (ih (by omega) (by rw [hri, decide_eq_true e2, Bool.or_true]))
        rw [view_Row.l0, show (((i + 1 : Nat) : Int) - 1) = (i : Int) by omega, if_pos (by omega), if_pos (by omega), if_pos (by omega), if_pos e1, if_pos (by omega), if_pos e2, hw, w64 (by omega) (by omega)]
      · have er : Gr.rws d s = false := by
          rw [Bool.eq_false_iff]
          intro hr
          have := rws_drop hr i
          rw [hri, decide_eq_false e2, decide_eq_false (by omega)] at this
          cases this
        rw [er]
        refine Ev.step (fun k => ?_) (Ev.now _)
        rw [view_Row.l0, show (((i + 1 : Nat) : Int) - 1) = (i : Int) by omega, if_pos (by omega), if_pos (by omega), if_pos (by omega), if_pos e1, if_pos (by omega), if_neg e2]
    · refine Ev.step (fun k => ?_) (ih (by omega) (by rw [hri, decide_eq_true (by omega), Bool.true_or]))
      rw [view_Row.l0, show (((i + 1 : Nat) : Int) - 1) = (i : Int) by omega, if_pos (by omega), if_pos (by omega), if_pos (by omega), if_neg e1, hw, w64 (by omega) (by omega)]
theorem view_row (o : Int) (d s : List Int) : Ev (fun k => view_Row.f k o d s) (Gr.row (Gr.cls o d s 64)) := by
  refine Ev.congr (fun k => by rw [view_Row.f]) (Ev.bind (view_rgt64 o d s) ?_)
  by_cases h : Gr.rgt o d s 64 = true
  · rw [← Gr.rws_row h, h]
    simp only [if_true]
    have hv := (Gr.rgt_ok h).1
    have h6 := (Gr.chk_ok hv.1).1
    have := vrow_l o d s hv.1 hv.2.1 d.length (by omega) (by rw [List.drop_length]; rfl)
    rw [List.drop_length] at this
    refine Ev.congr (fun k => ?_) this
    rw [w64 (by omega) (by omega)]; rfl
  · rw [Gr.cls_none h, Bool.eq_false_iff.2 h]
    exact Ev.now _
theorem view_whole (d : List Int) (hn : d.length ≤ 100) : Ev (fun k => view_Whole.f k d) (if Gr.chk d = 0 then (0, d, Gr.stp d) else (0, [], [])) := by
  refine Ev.congr (fun k => by rw [view_Whole.f, shape_check, Option.bind_some]) ?_
  by_cases h : Gr.chk d = 0
  · rw [if_pos h]
    simp only [if_pos h]
    refine Ev.congr (fun k => by rw [slices_Clone_int_int.f, if_pos (by omega), Option.bind_some]) ?_
    refine Ev.bind (shape_steps d) ?_
    rw [show Gr.steps d = Gr.stp d by unfold Gr.steps; rw [if_pos h]]
    exact Ev.now _
  · rw [if_neg h]
    simp only [if_neg h]
    exact Ev.now _
theorem rd_at0 (l : List Int) (i : Int) : rd l i = Gr.at0 l i := rfl
theorem copied (o : Int) (d s : List Int) (hd : d.length ≤ 100) (hs : s.length ≤ 100) : view_copied.f o d s = some (o, d, s) := by
  rw [view_copied.f, slices_Clone_int_int.f, if_pos (by omega), Option.bind_some, slices_Clone_int_int.f, if_pos (by omega), Option.bind_some]
theorem steps_bound {o : Int} {d s : List Int} {r : Int} (h : Gr.rgt o d s r = true) (i : Nat) (hi : i < d.length) : 1 ≤ Gr.at0 d (i : Int) ∧ Gr.at0 d (i : Int) ≤ 64 ∧ (1 < Gr.at0 d (i : Int) → -64 < Gr.at0 s (i : Int) ∧ Gr.at0 s (i : Int) < 64) := by
  obtain ⟨v1, v2, v3, v4, v5, v6⟩ := (Gr.rgt_ok h).1
  have hx := (Gr.chk_ok v1).2.1 _ (List.getElem_mem hi)
  have hx2 := Gr.ok_le v1 _ (List.getElem_mem hi)
  have hg := Gr.sok_get v6 i hi (by omega)
  rw [Gr.at0_get d i hi, Gr.at0_get s i (by omega)]
  exact ⟨hx, hx2, fun hlt => by rcases hg with hg | hg <;> omega⟩
theorem view_flip (o : Int) (d s : List Int) (a : Int) : Ev (fun k => view_Flip.f k o d s a) (Gr.flp o d s a) := by
  refine Ev.congr (fun k => by rw [view_Flip.f]) (Ev.bind (view_rgt64 o d s) ?_)
  unfold Gr.flp
  by_cases h : Gr.rgt o d s 64 = true
  · rw [h]
    simp only [if_true]
    obtain ⟨v1, v2, v3, v4, v5, v6⟩ := (Gr.rgt_ok h).1
    have h6 := (Gr.chk_ok v1).1
    by_cases h0 : a < 0
    · rw [if_pos (.inl h0)]
      simp only [if_pos h0]
      refine Ev.step (fun k => ?_) (Ev.now _)
      rw [view_Flip.j0, if_pos rfl]
    · simp only [if_neg h0]
      by_cases h1 : a ≥ (d.length : Int)
      · rw [decide_eq_true h1, if_pos (.inr h1)]
        refine Ev.step (fun k => ?_) (Ev.now _)
        rw [view_Flip.j0, if_pos rfl]
      · rw [decide_eq_false h1, if_neg (by omega)]
        obtain ⟨i, rfl⟩ := Int.eq_ofNat_of_zero_le (show 0 ≤ a by omega)
        obtain ⟨b1, b2, b3⟩ := steps_bound h i (by omega)
        refine Ev.step (f := fun k => some _) (fun k => ?_) (Ev.now _)
        rw [view_Flip.j0, if_neg (by simp), copied o d s (by omega) (by omega), Option.bind_some, if_pos (by omega), if_pos (by omega), rd_at0, rd_at0]
        by_cases h2 : 1 < Gr.at0 d (i : Int)
        · obtain ⟨c1, c2⟩ := b3 h2
          obtain ⟨m1, m2⟩ := mul_bound (a := Gr.at0 d (i : Int) - 1) (t := Gr.at0 s (i : Int)) (by omega) (by omega) (.inr ⟨c1, c2⟩)
          rw [if_pos h2, if_pos h2, if_pos (by omega), if_pos (by simp only; omega), w64 (x := Gr.at0 d (i : Int) - 1) (by omega) (by omega), w64 (x := (Gr.at0 d (i : Int) - 1) * Gr.at0 s (i : Int)) (by omega) (by omega), w64 (by omega) (by omega), w64 (by omega) (by omega)]
        · rw [if_neg h2, if_neg h2]
  · rw [Bool.eq_false_iff.2 h]
    exact Ev.now _
theorem permute_l (o : Int) (d s dims axes : List Int) (hl : axes.length ≤ 1000000000) (hr : ∀ a ∈ axes, 0 ≤ a ∧ a < (s.length : Int)) : ∀ i, i ≤ axes.length → ∀ ac : List Int, ac.length ≤ i →
    Ev (fun k => view_Permute.l0 k dims ac axes (axes.length : Int) (i : Int) o d s) (o, dims, ac ++ Gr.prm s (axes.drop i), 0) := by
  apply down
  · intro ac _
    rw [List.drop_length]
    simp only [Gr.prm, List.map_nil, List.append_nil]
    refine Ev.step (fun k => ?_) (Ev.now _)
    rw [view_Permute.l0, if_neg (by omega)]
  · intro i hi ih ac hac
    have hx := hr _ (List.getElem_mem hi)
    rw [← rdg axes i hi] at hx
    have := ih (ac ++ [rd s (rd axes (i : Int))]) (by simp; omega)
    rw [List.append_assoc] at this
    rw [dropc axes i hi]
    refine Ev.step (fun k => ?_) this
    rw [view_Permute.l0, if_pos (by omega), if_pos (by omega), if_pos (by omega), if_pos hx.1, if_pos hx.2, if_pos (by omega), nx i _ hi hl]
theorem view_permute (o : Int) (d s axes : List Int) (hl : axes.length ≤ 1000000000) : Ev (fun k => view_Permute.f k o d s axes) (Gr.pmt o d s axes) := by
  refine Ev.congr (fun k => by rw [view_Permute.f]) (Ev.bind (view_rgt64 o d s) ?_)
  unfold Gr.pmt
  by_cases h : Gr.rgt o d s 64 = true
  · rw [h]
    simp only [if_true]
    have v2 := (Gr.rgt_ok h).1.2.1
    refine Ev.bind (shape_perm d axes hl) ?_
    by_cases h2 : (Gr.perm d axes).2 = 0
    · obtain ⟨p1, p2, p3, p4, p5⟩ := Gr.perm_ok h2
      simp only [if_pos h2, p5]
      exact permute_l o d s (Gr.prm d axes) axes hl (fun a ha => by have := p2.range a ha; omega) 0 (by omega) [] (by simp)
    · simp only [if_neg h2]
      exact Ev.now _
  · rw [Bool.eq_false_iff.2 h]
    exact Ev.now _
theorem view_reshape (o : Int) (d s to_ : List Int) : Ev (fun k => view_Reshape.f k o d s to_) (Gr.vrs o d s to_) := by
  refine Ev.congr (fun k => by rw [view_Reshape.f]) (Ev.bind (view_rgt64 o d s) ?_)
  unfold Gr.vrs
  by_cases h : Gr.rgt o d s 64 = true
  · rw [h]
    simp only [if_true, shape_check, Option.bind_some]
    by_cases h1 : Gr.chk to_ = 0
    · simp only [if_pos h1]
      refine Ev.bind (shape_count to_) (Ev.bind (shape_count d) ?_)
      by_cases h2 : Gr.cnt to_ = Gr.cnt d
      · simp only [if_pos h2]
        refine Ev.bind (view_row o d s) ?_
        by_cases h3 : Gr.row (Gr.cls o d s 64) = true
        · rw [h3]
          simp only [if_true]
          refine Ev.congr (fun k => by rw [slices_Clone_int_int.f, if_pos (by have := (Gr.chk_ok h1).1; omega), Option.bind_some]) ?_
          refine Ev.bind (shape_steps to_) ?_
          rw [show Gr.steps to_ = Gr.stp to_ by unfold Gr.steps; rw [if_pos h1]]
          exact Ev.now _
        · rw [Bool.eq_false_iff.2 h3]
          exact Ev.now _
      · simp only [if_neg h2]; exact Ev.now _
    · simp only [if_neg h1]; exact Ev.now _
  · rw [Bool.eq_false_iff.2 h]; exact Ev.now _
theorem slice_3 (o : Int) (d s : List Int) (i0 : Nat) (start count : Int) (hd : d.length ≤ 100) (hi0 : i0 < d.length) (hs : s.length = d.length) (s1 : List Int) (hs1 : s1.length = d.length) (hw : 0 < start → wrap64 (o + wrap64 (start * Gr.at0 s (i0 : Int))) = o + start * Gr.at0 s (i0 : Int)) (k : Nat) :
    view_Slice.j3 (k + 1) (i0 : Int) start count o d s o d s1 = some (if 0 < start then o + start * Gr.at0 s (i0 : Int) else o, d.set i0 count, if count = 1 then s1.set i0 0 else s1, 0) := by
  rw [view_Slice.j3]
  by_cases h : 0 < start
  · rw [if_pos h, if_pos h, if_pos (by omega), if_pos (by omega), if_pos (by omega), Option.bind_some, Int.toNat_natCast, rd_at0, hw h]
    by_cases h1 : count = 1
    · rw [if_pos h1, if_pos h1, if_pos (by omega)]
    · rw [if_neg h1, if_neg h1]
  · rw [if_neg (by omega), if_neg h, if_pos (by omega), if_pos (by omega), Option.bind_some, Int.toNat_natCast]
    by_cases h1 : count = 1
    · rw [if_pos h1, if_pos h1, if_pos (by omega)]
    · rw [if_neg h1, if_neg h1]
theorem view_slice (o : Int) (d s : List Int) (a start count step : Int) : Ev (fun k => view_Slice.f k o d s a start count step) (Gr.vsl o d s a start count step) := by
  refine Ev.congr (fun k => by rw [view_Slice.f]) (Ev.bind (view_rgt64 o d s) ?_)
  unfold Gr.vsl
  by_cases h : Gr.rgt o d s 64 = true
  · rw [h]
    simp only [if_true]
    obtain ⟨v1, v2, v3, v4, v5, v6⟩ := (Gr.rgt_ok h).1
    have h6 := (Gr.chk_ok v1).1
    by_cases h0 : a < 0
    · rw [if_pos (.inl h0)]
      simp only [if_pos h0]
      refine Ev.step (fun k => ?_) (Ev.now _)
      rw [view_Slice.j0, if_pos rfl]
    · simp only [if_neg h0]
      by_cases h1 : a ≥ (d.length : Int)
      · rw [decide_eq_true h1, if_pos (.inr h1)]
        refine Ev.step (fun k => ?_) (Ev.now _)
        rw [view_Slice.j0, if_pos rfl]
      · rw [decide_eq_false h1, if_neg (show ¬ (a < 0 ∨ (d.length : Int) ≤ a) by omega)]
        obtain ⟨i0, rfl⟩ := Int.eq_ofNat_of_zero_le (show 0 ≤ a by omega)
        obtain ⟨b1, b2, b3⟩ := steps_bound h i0 (by omega)
        rw [Int.toNat_natCast]
        have hrd : rd d (i0 : Int) = Gr.at0 d (i0 : Int) := rfl
        have stop : Ev (fun k => view_Slice.j1 k (i0 : Int) start count step (Gr.at0 d (i0 : Int)) true o d s) (0, [], [], 11) := by
          refine Ev.step (fun k => ?_) (Ev.now _)
          rw [view_Slice.j1, if_pos rfl]
        by_cases c1 : start < 0
        · rw [if_pos (.inl c1)]
          refine Ev.step (fun k => ?_) stop
          rw [view_Slice.j0, if_neg (by simp), if_pos (by omega), if_pos (by omega), if_pos c1, hrd]
        · by_cases c2 : start ≥ Gr.at0 d (i0 : Int)
          · rw [if_pos (.inr (.inl c2))]
            refine Ev.step (fun k => ?_) stop
            rw [view_Slice.j0, if_neg (by simp), if_pos (by omega), if_pos (by omega), if_neg c1, hrd, if_pos c2]
          · by_cases c3 : count < 1
            · rw [if_pos (.inr (.inr (.inl c3)))]
              refine Ev.step (fun k => ?_) stop
              rw [view_Slice.j0, if_neg (by simp), if_pos (by omega), if_pos (by omega), if_neg c1, hrd, if_neg c2, if_pos c3]
            · by_cases c4 : count > Gr.at0 d (i0 : Int)
              · rw [if_pos (.inr (.inr (.inr (.inl c4))))]
                refine Ev.step (fun k => ?_) stop
                rw [view_Slice.j0, if_neg (by simp), if_pos (by omega), if_pos (by omega), if_neg c1, hrd, if_neg c2, if_neg c3, decide_eq_true c4]
              · have hw : 0 < start → wrap64 (o + wrap64 (start * Gr.at0 s (i0 : Int))) = o + start * Gr.at0 s (i0 : Int) := fun hp => by
                  obtain ⟨e1, e2⟩ := b3 (by omega)
                  obtain ⟨m1, m2⟩ := mul_bound (a := start) (t := Gr.at0 s (i0 : Int)) (by omega) (by omega) (.inr ⟨e1, e2⟩)
                  rw [w64 (x := start * Gr.at0 s (i0 : Int)) (by omega) (by omega), w64 (by omega) (by omega)]
                refine Ev.step (f := fun k => view_Slice.j1 k (i0 : Int) start count step (Gr.at0 d (i0 : Int)) false o d s) (fun k => ?_) ?_
                · rw [view_Slice.j0, if_neg (by simp), if_pos (by omega), if_pos (by omega), if_neg c1, hrd, if_neg c2, if_neg c3, decide_eq_false c4]
                · by_cases c5 : count > 1
                  · obtain ⟨e1, e2⟩ := b3 (by omega)
                    have stop2 : Ev (fun k => view_Slice.j2 k (i0 : Int) start count step (Gr.at0 d (i0 : Int)) true o d s o d s) (0, [], [], 11) := by
                      refine Ev.step (fun k => ?_) (Ev.now _)
                      rw [view_Slice.j2, if_pos rfl]
                    have hnw : wrap64 (-(Gr.at0 d (i0 : Int))) = -(Gr.at0 d (i0 : Int)) := w64 (by omega) (by omega)
                    by_cases c6 : step = 0
                    · rw [if_pos (by omega)]
                      refine Ev.step (fun k => ?_) stop2
                      rw [view_Slice.j1, if_neg (by simp), copied o d s (by omega) (by omega), Option.bind_some, if_pos c5, if_pos c6]
                    · by_cases c7 : step ≥ Gr.at0 d (i0 : Int)
                      · rw [if_pos (by omega)]
                        refine Ev.step (fun k => ?_) stop2
                        rw [view_Slice.j1, if_neg (by simp), copied o d s (by omega) (by omega), Option.bind_some, if_pos c5, if_neg c6, if_pos c7]
                      · by_cases c8 : step ≤ -(Gr.at0 d (i0 : Int))
                        · rw [if_pos (by omega)]
                          refine Ev.step (fun k => ?_) stop2
                          rw [view_Slice.j1, if_neg (by simp), copied o d s (by omega) (by omega), Option.bind_some, if_pos c5, if_neg c6, if_neg c7, hnw, decide_eq_true c8]
                        · obtain ⟨m1, m2⟩ := mul_bound (a := count - 1) (t := step) (by omega) (by omega) (.inr ⟨by omega, by omega⟩)
                          have hlw : wrap64 (start + wrap64 (wrap64 (count - 1) * step)) = start + (count - 1) * step := by
                            rw [w64 (x := count - 1) (by omega) (by omega), w64 (x := (count - 1) * step) (by omega) (by omega), w64 (by omega) (by omega)]
                          refine Ev.step (f := fun k => view_Slice.j2 k (i0 : Int) start count step (Gr.at0 d (i0 : Int)) false o d s o d s) (fun k => ?_) ?_
                          · rw [view_Slice.j1, if_neg (by simp), copied o d s (by omega) (by omega), Option.bind_some, if_pos c5, if_neg c6, if_neg c7, hnw, decide_eq_false c8]
                          · by_cases c9 : start + (count - 1) * step < 0
                            · rw [if_pos (by omega)]
                              refine Ev.step (fun k => ?_) (Ev.now _)
                              rw [view_Slice.j2, if_neg (by simp), hlw, if_pos c9]
                            · by_cases c10 : start + (count - 1) * step ≥ Gr.at0 d (i0 : Int)
                              · rw [if_pos (by omega)]
                                refine Ev.step (fun k => ?_) (Ev.now _)
                                rw [view_Slice.j2, if_neg (by simp), hlw, if_neg c9, if_pos c10]
                              · rw [if_neg (by omega), if_neg (show ¬ count = 1 by omega)]
                                have e3 : -4096 ≤ Gr.at0 s (i0 : Int) * step ∧ Gr.at0 s (i0 : Int) * step ≤ 4096 := by
                                  rcases Int.lt_or_le (Gr.at0 s (i0 : Int)) 0 with hneg | hpos
                                  · obtain ⟨q1, q2⟩ := mul_bound (a := -(Gr.at0 s (i0 : Int))) (t := step) (by omega) (by omega) (.inr ⟨by omega, by omega⟩)
                                    rw [Int.neg_mul] at q1 q2; omega
                                  · obtain ⟨q1, q2⟩ := mul_bound (a := Gr.at0 s (i0 : Int)) (t := step) (by omega) (by omega) (.inr ⟨by omega, by omega⟩)
                                    omega
                                refine Ev.step (f := fun k => view_Slice.j3 k (i0 : Int) start count o d s o d (s.set i0 (Gr.at0 s (i0 : Int) * step))) (fun k => ?_) (Ev.step (f := fun _ => some _) (fun k => ?_) (Ev.now _))
                                · rw [view_Slice.j2, if_neg (by simp), hlw, if_neg c9, if_neg c10, if_pos (by omega), if_pos (by omega), if_pos (by omega), Int.toNat_natCast, rd_at0, w64 (by omega) (by omega)]
                                · rw [slice_3 o d s i0 start count (by omega) (by omega) v2 _ (by simp; omega) hw k, if_neg (show ¬ count = 1 by omega)]
                  · have hc1 : count = 1 := by omega
                    rw [if_neg (by omega), if_pos hc1]
                    refine Ev.step (f := fun k => view_Slice.j3 k (i0 : Int) start count o d s o d s) (fun k => ?_) (Ev.step (f := fun _ => some _) (fun k => ?_) (Ev.now _))
                    · rw [view_Slice.j1, if_neg (by simp), copied o d s (by omega) (by omega), Option.bind_some, if_neg c5]
                    · rw [slice_3 o d s i0 start count (by omega) (by omega) v2 s v2 hw k, if_pos hc1]
  · rw [Bool.eq_false_iff.2 h]; exact Ev.now _
theorem expand_l (o : Int) (d s to_ : List Int) (hl : s.length = d.length) (hd : d.length ≤ 6) (ht : to_.length ≤ 6) (hdt : d.length ≤ to_.length) : ∀ i, i ≤ d.length →
    Ev (fun k => view_Expand.l0 k ((to_.length : Int) - (d.length : Int)) d (d.length : Int) (i : Int) o d s o to_ (Gr.est to_.length d s i)) (o, to_, List.replicate (to_.length - d.length) 0 ++ Gr.exs d s, 0) := by
  have he := Gr.exs_length d s hl
  apply down
  · refine Ev.step (fun k => ?_) (Ev.now _)
    rw [view_Expand.l0, if_neg (by omega)]
    unfold Gr.est
    rw [Nat.sub_self, List.take_of_length_le (by omega)]
    simp
  · intro i hi ih
    have hel := Gr.est_length to_.length d s hl hdt i (by omega)
    by_cases h1 : 1 < Gr.at0 d (i : Int)
    · rw [Gr.est_succ _ _ _ hl i hi, Gr.exs_at d s hl i hi, if_pos h1] at ih
      refine Ev.step (fun k => ?_) ih
      have hw : wrap64 ((to_.length : Int) - (d.length : Int) + (i : Int)) = ((to_.length - d.length + i : Nat) : Int) := by rw [w64 (by omega) (by omega)]; omega
      rw [view_Expand.l0, if_pos (by omega), if_pos (by omega), if_pos (by omega), rd_at0, rd_at0, if_pos h1, if_pos (by omega), hw, if_pos (by omega), if_pos (by omega), Int.toNat_natCast, nx i _ hi (by omega)]
    · rw [Gr.est_keep _ _ _ hl i hi h1] at ih
      refine Ev.step (fun k => ?_) ih
      rw [view_Expand.l0, if_pos (by omega), if_pos (by omega), if_pos (by omega), rd_at0, if_neg h1, nx i _ hi (by omega)]
theorem view_expand (o : Int) (d s to_ : List Int) : Ev (fun k => view_Expand.f k o d s to_) (Gr.vex o d s to_) := by
  refine Ev.congr (fun k => by rw [view_Expand.f]) (Ev.bind (view_rgt64 o d s) ?_)
  unfold Gr.vex
  by_cases h : Gr.rgt o d s 64 = true
  · rw [h]
    simp only [if_true, shape_check, Option.bind_some]
    by_cases h1 : Gr.chk to_ = 0
    · simp only [if_pos h1]
      refine Ev.bind (fits d to_) ?_
      by_cases h2 : Gr.fts d to_ = true
      · rw [h2]
        simp only [if_true]
        obtain ⟨f1, f2, f3, f4⟩ := (Gr.fts_iff d to_).1 h2
        have ht := (Gr.chk_ok h1).1
        have hd := (Gr.chk_ok f1).1
        have := expand_l o d s to_ (Gr.rgt_ok h).1.2.1 hd ht f3 0 (by omega)
        have e0 : Gr.est to_.length d s 0 = List.replicate to_.length 0 := by
          unfold Gr.est
          rw [List.take_zero, List.nil_append, List.replicate_append_replicate]
          congr 1; omega
        rw [e0] at this
        refine Ev.congr (fun k => ?_) this
        rw [slices_Clone_int_int.f, if_pos (by omega), Option.bind_some, if_pos (by omega), if_pos (by omega), Int.toNat_natCast, w64 (by omega) (by omega)]; rfl
      · rw [Bool.eq_false_iff.2 h2]; exact Ev.now _
    · simp only [if_neg h1]; exact Ev.now _
  · rw [Bool.eq_false_iff.2 h]; exact Ev.now _
theorem move_view (o : Int) (d s : List Int) (op n a b c p q r t : Int) (kp : Bool) (l : List Int) (hl : l.length ≤ 1000) (h33 : 33 ≤ op) (h37 : op ≤ 37) : Ev (fun k => move_View.f k op n a b c p q r t kp l o d s) (Gr.sen o d s op n a b c l) := by
  unfold Gr.sen
  by_cases h1 : op = 33
  · rw [if_pos h1]
    exact Ev.congr (fun k => by rw [move_View.f, if_pos h1]) (Ev.bind (view_reshape o d s l) (Ev.now _))
  · by_cases h2 : op = 34
    · rw [if_neg h1, if_pos h2]
      exact Ev.congr (fun k => by rw [move_View.f, if_neg h1, if_pos h2]) (Ev.bind (view_permute o d s l (by omega)) (Ev.now _))
    · by_cases h3 : op = 35
      · rw [if_neg h1, if_neg h2, if_pos h3]
        exact Ev.congr (fun k => by rw [move_View.f, if_neg h1, if_neg h2, if_pos h3]) (Ev.bind (view_slice o d s n a b c) (Ev.now _))
      · by_cases h4 : op = 36
        · rw [if_neg h1, if_neg h2, if_neg h3, if_pos h4]
          exact Ev.congr (fun k => by rw [move_View.f, if_neg h1, if_neg h2, if_neg h3, if_pos h4]) (Ev.bind (view_expand o d s l) (Ev.now _))
        · rw [if_neg h1, if_neg h2, if_neg h3, if_neg h4]
          exact Ev.congr (fun k => by rw [move_View.f, if_neg h1, if_neg h2, if_neg h3, if_neg h4, if_pos (by omega)]) (Ev.bind (view_flip o d s n) (Ev.now _))
theorem joined_w (x y : List Int) (n : Int) (hx : Gr.chk x = 0) (hy : Gr.chk y = 0) (h0 : 0 ≤ n) (h1 : n < (x.length : Int)) (hl : x.length = y.length) : wrap64 (rd x n + rd y n) = Gr.at0 x n + Gr.at0 y n := by
  obtain ⟨m, rfl⟩ := Int.eq_ofNat_of_zero_le h0
  have e1 := (Gr.chk_ok hx).2.1 x[m] (List.getElem_mem (by omega))
  have e2 := (Gr.chk_ok hy).2.1 y[m] (List.getElem_mem (by omega))
  have e3 := Gr.ok_le hx x[m] (List.getElem_mem (by omega))
  have e4 := Gr.ok_le hy y[m] (List.getElem_mem (by omega))
  rw [← at0_rd, ← at0_rd, Gr.at0_g29 x m (by omega), Gr.at0_g29 y m (by omega), w64 (by omega) (by omega)]
theorem joined_l (x y : List Int) (n : Int) (hx : Gr.chk x = 0) (hy : Gr.chk y = 0) (h0 : 0 ≤ n) (h1 : n < (x.length : Int)) (hl : x.length = y.length) : ∀ i, i ≤ x.length →
    Ev (fun k => move_joined.l0 k x y n x (x.length : Int) (i : Int)) (if Gr.jok n x y i = true then Gr.withd x n (Gr.at0 x n + Gr.at0 y n) else ([], 8)) := by
  have h6 := (Gr.chk_ok hx).1
  apply down
  · rw [if_pos (Gr.jok_end n x y)]
    refine Ev.step (fun k => by rw [move_joined.l0, if_neg (by omega), if_pos h0, if_pos h1, if_pos (by omega), joined_w x y n hx hy h0 h1 hl]) (Ev.bind (withp x n _) ?_)
    exact Ev.now _
  · intro i hi ih
    have e := Gr.jok_step n x y i hi
    by_cases g0 : (i : Int) = n
    · rw [decide_eq_true g0, Bool.true_or, Bool.true_and] at e
      rw [e]
      refine Ev.step (fun k => ?_) ih
      rw [move_joined.l0, if_pos (by omega), if_pos (by omega), if_pos (by omega), if_pos g0, nx i _ hi (by omega)]
    · rw [decide_eq_false g0, Bool.false_or] at e
      by_cases g1 : Gr.at0 x (i : Int) = Gr.at0 y (i : Int)
      · rw [decide_eq_true g1, Bool.true_and] at e
        rw [e]
        refine Ev.step (fun k => ?_) ih
        rw [move_joined.l0, if_pos (by omega), if_pos (by omega), if_pos (by omega), if_neg g0, if_pos (by omega), ← at0_rd, ← at0_rd, if_pos g1, nx i _ hi (by omega)]
      · rw [decide_eq_false g1, Bool.false_and] at e
        rw [e, if_neg (by simp)]
        refine Ev.step (fun k => ?_) (Ev.now _)
        rw [move_joined.l0, if_pos (by omega), if_pos (by omega), if_pos (by omega), if_neg g0, if_pos (by omega), ← at0_rd, ← at0_rd, if_neg g1]
theorem mjoined (x y : List Int) (n : Int) (hx : Gr.chk x = 0) (hy : Gr.chk y = 0) : Ev (fun k => move_joined.f k x y n) (Gr.joind x y n) := by
  unfold Gr.joind
  by_cases h0 : n < 0
  · rw [if_pos (.inl h0)]
    refine Ev.congr (fun k => by rw [move_joined.f, if_pos h0]) (Ev.step (fun k => ?_) (Ev.now _))
    rw [move_joined.j0, if_pos rfl]
  · by_cases h1 : (x.length : Int) ≤ n
    · rw [if_pos (.inr h1)]
      refine Ev.congr (fun k => by rw [move_joined.f, if_neg h0]) (Ev.step (fun k => ?_) (Ev.now _))
      rw [move_joined.j0, if_pos (decide_eq_true h1)]
    · rw [if_neg (by omega)]
      by_cases h2 : x.length = y.length
      · rw [if_pos h2]
        refine Ev.congr (fun k => by rw [move_joined.f, if_neg h0]) (Ev.step (fun k => ?_) (joined_l x y n hx hy (by omega) (by omega) h2 0 (by omega)))
        rw [move_joined.j0, if_neg (by simp; omega), if_pos (by omega)]; rfl
      · rw [if_neg h2]
        refine Ev.congr (fun k => by rw [move_joined.f, if_neg h0]) (Ev.step (fun k => ?_) (Ev.now _))
        rw [move_joined.j0, if_neg (by simp; omega), if_neg (by omega)]
theorem rd_L0 (l : List (List Int)) : rd_L1 l 0 = l.getD 0 [] := rfl
theorem rd_L1' (l : List (List Int)) : rd_L1 l 1 = l.getD 1 [] := rfl
theorem getD_mem (l : List (List Int)) (i : Nat) (h : i < l.length) : l.getD i [] ∈ l := by
  rw [List.getD_eq_getElem?_getD, List.getElem?_eq_getElem h]; exact List.getElem_mem h
theorem mdims_l (op n a b c p q r t : Int) (kp : Bool) (l : List Int) (dims : List (List Int)) (hn : dims.length ≤ 1000) (hl : l.length ≤ 1000) (h33 : 33 ≤ op) (h40 : op ≤ 40) (hd : (dims.length : Int) = (if op = 40 then 2 else 1)) : ∀ i, i ≤ dims.length → (∀ x ∈ dims.take i, Gr.chk x = 0) →
    Ev (fun k => move_Dims.l0 k op dims dims (dims.length : Int) (i : Int) n a b c p q r t kp l) (if Gr.fchk (dims.drop i) = 0 then
    (if op = 38 then Gr.takd (dims.getD 0 []) n l else if op = 39 then Gr.putd (dims.getD 0 []) n a l else if op = 40 then Gr.joind (dims.getD 0 []) (dims.getD 1 []) n else ((Gr.ses (dims.getD 0 []) op n a b c l).1, (Gr.ses (dims.getD 0 []) op n a b c l).2.2))
    else ([], Gr.fchk (dims.drop i))) := by
  apply down
  · intro hc
    rw [List.take_length] at hc
    rw [List.drop_length, if_pos (show Gr.fchk [] = 0 from rfl)]
    have hp : 0 < dims.length := by split at hd <;> omega
    have hc0 := hc _ (getD_mem dims 0 hp)
    by_cases h1 : op = 38
    · rw [if_pos h1]
      refine Ev.step (fun k => by rw [move_Dims.l0, if_neg (by omega), if_pos h1, if_pos (by omega), rd_L0]) (Ev.bind (mtaken _ n a b c p q r t kp l (by omega)) (Ev.now _))
    · rw [if_neg h1]
      by_cases h2 : op = 39
      · rw [if_pos h2]
        refine Ev.step (fun k => by rw [move_Dims.l0, if_neg (by omega), if_neg h1, if_pos h2, if_pos (by omega), rd_L0]) (Ev.bind (mput _ n a b c p q r t kp l (by omega)) (Ev.now _))
      · rw [if_neg h2]
        by_cases h3 : op = 40
        · rw [if_pos h3]
          rw [if_pos h3] at hd
          have hc1 := hc _ (getD_mem dims 1 (by omega))
          refine Ev.step (fun k => by rw [move_Dims.l0, if_neg (by omega), if_neg h1, if_neg h2, if_pos h3, if_pos (by omega), if_pos (by omega), rd_L0, rd_L1']) (Ev.bind (mjoined _ _ n hc0 hc1) (Ev.now _))
        · rw [if_neg h3]
          have h6 := (Gr.chk_ok hc0).1
          have hw := view_whole (dims.getD 0 []) (by omega)
          rw [if_pos hc0] at hw
          obtain ⟨s1, s2⟩ := Gr.sen_whole hc0 op n a b c l
          refine Ev.step (fun k => by rw [move_Dims.l0, if_neg (by omega), if_neg h1, if_neg h2, if_neg h3, if_pos (by omega), rd_L0]) (Ev.bind hw (Ev.bind (move_view 0 _ _ op n a b c p q r t kp l hl h33 (by omega)) ?_))
          rw [s1, s2]
          exact Ev.now _
  · intro i hi ih hc
    rw [List.drop_eq_getElem_cons hi]
    unfold Gr.fchk
    by_cases h : Gr.chk dims[i] = 0
    · rw [if_pos h]
      refine Ev.step (fun k => ?_) (ih (fun x hx => ?_))
      · rw [move_Dims.l0, if_pos (by omega), if_pos (by omega), if_pos (by omega), rdl dims i hi, shape_check, Option.bind_some, if_pos h, nx i _ hi (by omega)]
      · rw [List.take_succ_eq_append_getElem hi, List.mem_append, List.mem_singleton] at hx
        rcases hx with hx | rfl
        · exact hc x hx
        · exact h
    · rw [if_neg h, if_neg h]
      refine Ev.step (fun k => ?_) (Ev.now _)
      rw [move_Dims.l0, if_pos (by omega), if_pos (by omega), if_pos (by omega), rdl dims i hi, shape_check, Option.bind_some, if_neg h]
theorem mdims (op n a b c p q r t : Int) (kp : Bool) (l : List Int) (dims : List (List Int)) (hn : dims.length ≤ 1000) (hl : l.length ≤ 1000) : Ev (fun k => move_Dims.f k op n a b c p q r t kp l dims) (Gr.mvd op n a b c l dims) := by
  unfold Gr.mvd
  have j1 : Ev (fun k => move_Dims.j0 k op dims true n a b c p q r t kp l) (([] : List Int), (1 : Int)) := Ev.step (fun k => by rw [move_Dims.j0, if_pos rfl]) (Ev.now _)
  by_cases h1 : 33 ≤ op ∧ op ≤ 40
  · rw [if_pos h1]
    by_cases h2 : (dims.length : Int) = (if op = 40 then 2 else 1)
    · rw [if_pos h2]
      have hm := mdims_l op n a b c p q r t kp l dims hn hl h1.1 h1.2 h2 0 (by omega) (by simp)
      rw [List.drop_zero] at hm
      have j0 : Ev (fun k => move_Dims.j0 k op dims false n a b c p q r t kp l) _ := Ev.step (fun k => by rw [move_Dims.j0, if_neg (by simp)]; rfl) hm
      by_cases h3 : op = 40
      · rw [if_pos h3] at h2
        refine Ev.congr (fun k => ?_) j0
        rw [move_Dims.f, move_Is.f, if_pos (by omega), Option.bind_some, if_pos (by simp; omega), if_neg (by omega), if_pos h3, h2]; rfl
      · rw [if_neg h3] at h2
        refine Ev.congr (fun k => ?_) j0
        rw [move_Dims.f, move_Is.f, if_pos (by omega), Option.bind_some, if_pos (by simp; omega), if_pos (by omega), if_neg h3]
    · rw [if_neg h2]
      by_cases h3 : op = 40
      · rw [if_pos h3] at h2
        have e : ((dims.length : Int) != 2) = true := bne_iff_ne.2 h2
        refine Ev.congr (fun k => ?_) j1
        rw [move_Dims.f, move_Is.f, if_pos (by omega), Option.bind_some, if_pos (by simp; omega), if_pos h3, if_pos h3, e]; simp
      · rw [if_neg h3] at h2
        refine Ev.congr (fun k => ?_) j1
        rw [move_Dims.f, move_Is.f, if_pos (by omega), Option.bind_some, if_pos (by simp; omega), if_neg (by omega), if_neg h3]
  · rw [if_neg h1]
    refine Ev.congr (fun k => ?_) (Ev.now _)
    rw [move_Dims.f, move_Is.f]
    by_cases g : op ≥ 33
    · rw [if_pos g, Option.bind_some, if_neg (by simp; omega)]
    · rw [if_neg g, Option.bind_some, if_neg (by simp)]
theorem pis (op : Int) : prim_Is.f op = some (decide (1 ≤ op ∧ op ≤ 40)) := by
  rw [prim_Is.f]
  by_cases h : op ≥ 1
  · rw [if_pos h]; congr 1; rw [decide_eq_decide]; omega
  · rw [if_neg h, decide_eq_false (by omega)]
theorem pari (op : Int) : Ev (fun k => prim_Arity.f k op) (Gr.ari op) := by
  unfold Gr.ari
  by_cases h : 1 ≤ op ∧ op ≤ 40
  · rw [if_pos h]
    have a1 : Ev (fun k => prim_Arity.j1 k op true) (2 : Int) := Ev.step (fun k => by rw [prim_Arity.j1, if_pos rfl]) (Ev.now _)
    have a2 : Ev (fun k => prim_Arity.j1 k op false) (if 24 ≤ op ∧ op ≤ 26 then (3 : Int) else 1) := by
      refine Ev.step (fun k => ?_) (Ev.now _)
      rw [prim_Arity.j1, if_neg (by simp)]
      by_cases g : op ≥ 24
      · rw [if_pos g]
        by_cases g2 : op ≤ 26
        · rw [if_pos g2, if_pos ⟨g, g2⟩]
        · rw [if_neg g2, if_neg (by omega)]
      · rw [if_neg g, if_neg (by omega)]
    refine Ev.congr (fun k => by rw [prim_Arity.f, pis, Option.bind_some, if_pos (decide_eq_true h)]) ?_
    have b1 : Ev (fun k => prim_Arity.j0 k op true) (2 : Int) := Ev.step (fun k => by rw [prim_Arity.j0, if_pos rfl]) a1
    have b2 : Ev (fun k => prim_Arity.j0 k op false) (if op = 32 ∨ op = 40 then (2 : Int) else if 24 ≤ op ∧ op ≤ 26 then (3 : Int) else 1) := by
      by_cases c1 : op = 32
      · rw [if_pos (.inl c1)]
        refine Ev.step (fun k => ?_) a1
        rw [prim_Arity.j0, if_neg (by simp), if_pos c1, beq_iff_eq.2 c1]
      · by_cases c2 : op = 40
        · rw [if_pos (.inr c2)]
          refine Ev.step (fun k => ?_) a1
          rw [prim_Arity.j0, if_neg (by simp), if_neg c1, beq_iff_eq.2 c2]
        · rw [if_neg (by omega)]
          refine Ev.step (fun k => ?_) a2
          rw [prim_Arity.j0, if_neg (by simp), if_neg c1, beq_eq_false_iff_ne.2 c2]
    by_cases g : op ≥ 17
    · by_cases g2 : op ≤ 23
      · rw [if_pos (.inl ⟨g, g2⟩)]
        refine Ev.congr (fun k => ?_) b1
        rw [if_pos g, decide_eq_true g2]
      · refine Ev.congr (fun k => by rw [if_pos g, decide_eq_false g2]) ?_
        by_cases c : op = 32 ∨ op = 40
        · rw [if_pos (.inr c)]; rw [if_pos c] at b2; exact b2
        · rw [if_neg (by omega)]; rw [if_neg c] at b2; exact b2
    · refine Ev.congr (fun k => by rw [if_neg g]) ?_
      by_cases c : op = 32 ∨ op = 40
      · rw [if_pos (.inr c)]; rw [if_pos c] at b2; exact b2
      · rw [if_neg (by omega)]; rw [if_neg c] at b2; exact b2
  · rw [if_neg h]
    refine Ev.congr (fun k => ?_) (Ev.now _)
    rw [prim_Arity.f, pis, Option.bind_some, if_neg (by simpa using h)]
theorem pkls (op : Int) : prim_Class.f op = some (Gr.kls op) := by
  rw [prim_Class.f, pis, Option.bind_some]
  unfold Gr.kls
  by_cases h : 1 ≤ op ∧ op ≤ 40
  · rw [if_pos (decide_eq_true h), if_pos h]
    by_cases h1 : op < 27
    · rw [if_pos h1, if_pos h1]
    · rw [if_neg h1, if_neg h1]
      by_cases h2 : op < 32
      · rw [if_pos h2, if_pos h2]
      · rw [if_neg h2, if_neg h2]
        by_cases h3 : op = 32
        · rw [if_pos h3, if_pos h3]
        · rw [if_neg h3, if_neg h3]
          by_cases h4 : op ≤ 37
          · rw [if_pos h4, if_pos h4]
          · rw [if_neg h4, if_neg h4]
  · rw [if_neg (by simpa using h), if_neg h]
theorem icst (p q : Int) : infer_Const.f p q = some (Gr.cst p q) := by
  rw [infer_Const.f]
  unfold Gr.cst
  by_cases h1 : p ≥ -1048576
  · rw [if_pos h1, decide_eq_true h1, Bool.true_and]
    by_cases h2 : p ≤ 1048576
    · rw [if_pos h2, decide_eq_true h2, Bool.true_and]
      by_cases h3 : q ≥ 1
      · rw [if_pos h3, decide_eq_true h3, Bool.true_and]
      · rw [if_neg h3, decide_eq_false h3, Bool.false_and]
    · rw [if_neg h2, decide_eq_false h2, Bool.false_and, Bool.false_and]
  · rw [if_neg h1, decide_eq_false h1, Bool.false_and, Bool.false_and, Bool.false_and]
def cmp4 (p q r s : Int) : Bool := decide (wrap64 (p * s) ≤ wrap64 (r * q))
theorem iatr (op n a b c p q r s : Int) (kp : Bool) (l : List Int) : Ev (fun k => infer_Attr.f k op n a b c p q r s kp l) (Gr.atr op n p q r s cmp4) := by
  unfold Gr.atr
  by_cases h12 : op = 12
  · rw [if_pos h12]
    refine Ev.congr (fun k => ?_) (Ev.now _)
    rw [infer_Attr.f, if_pos h12]
    by_cases g : n ≥ -8
    · rw [if_pos g, decide_eq_true g, Bool.true_and]
    · rw [if_neg g, decide_eq_false g, Bool.false_and]
  · rw [if_neg h12]
    have jt : Ev (fun k => infer_Attr.j0 k op op true n a b c p q r s kp l) (Gr.cst p q) := by
      refine Ev.step (fun k => ?_) (Ev.now _)
      rw [infer_Attr.j0, if_pos rfl, icst]; rfl
    by_cases h13 : op = 13
    · rw [if_pos (.inl h13)]
      refine Ev.congr (fun k => ?_) jt
      rw [infer_Attr.f, if_neg h12, if_pos h13, beq_iff_eq.2 h13]
    · by_cases h14 : op = 14
      · rw [if_pos (.inr (.inl h14))]
        refine Ev.congr (fun k => ?_) jt
        rw [infer_Attr.f, if_neg h12, if_neg h13, if_pos h14, beq_iff_eq.2 h14]
      · by_cases h16 : op = 16
        · rw [if_pos (.inr (.inr h16))]
          refine Ev.congr (fun k => ?_) jt
          rw [infer_Attr.f, if_neg h12, if_neg h13, if_neg h14, beq_iff_eq.2 h16]
        · rw [if_neg (by omega)]
          refine Ev.congr (fun k => by rw [infer_Attr.f, if_neg h12, if_neg h13, if_neg h14, beq_eq_false_iff_ne.2 h16]) (Ev.step (fun k => ?_) (Ev.now _))
          rw [infer_Attr.j0, if_neg (by simp)]
          by_cases h15 : op = 15
          · rw [if_pos h15, if_pos h15, icst, Option.bind_some, icst]
            cases Gr.cst p q <;> cases Gr.cst r s <;> rfl
          · rw [if_neg h15, if_neg h15, pis]; rfl
theorem all31_l (l : List (List Int)) (hn : l.length ≤ 20) : ∀ i, i ≤ l.length → ∀ o, Ev (fun k => spread_All.l0 k o l (l.length : Int) (i : Int)) (Gr.mny o (l.drop i)) := by
  apply down
  · intro o
    rw [List.drop_length]
    refine Ev.step (fun k => ?_) (Ev.now _)
    rw [spread_All.l0, if_neg (by omega)]; rfl
  · intro i hi ih o
    rw [List.drop_eq_getElem_cons hi]
    refine Ev.step (fun k => by rw [spread_All.l0, if_pos (by omega), if_pos (by omega), if_pos (by omega), rdl l i hi]) (Ev.bind (two o l[i]) ?_)
    unfold Gr.mny
    by_cases h : (Gr.two o l[i]).2 = 0
    · rw [if_pos h]
      simp only [if_pos h]
      refine Ev.congr (fun k => ?_) (ih _)
      rw [nx i _ hi (by omega)]
    · rw [if_neg h]
      simp only [if_neg h]
      exact Ev.now _
theorem all31 (l : List (List Int)) (hn : l.length ≤ 20) : Ev (fun k => spread_All.f k l) (Gr.mny [] l) := by
  have := all31_l l (by omega) 0 (by omega) []
  rw [List.drop_zero] at this
  exact this
theorem rdims (op n a b c p q r s : Int) (kp : Bool) (l d : List Int) (hn : l.length ≤ 1000) (h27 : 27 ≤ op) (h31 : op ≤ 31) : Ev (fun k => reduce_Dims.f k op n a b c p q r s kp l d) (Gr.drop d (Gr.axes op n l) kp) := by
  have e : reduce_axes.f op n a b c p q r s kp l = some (Gr.axes op n l) := by
    rw [reduce_axes.f]
    unfold Gr.axes
    by_cases h1 : op = 27
    · rw [if_pos h1, if_pos (.inl h1)]
    · rw [if_neg h1]
      by_cases h2 : op = 28
      · rw [if_pos h2, if_pos (.inr h2)]
      · rw [if_neg h2, if_neg (by omega)]
  refine Ev.congr (fun k => by rw [reduce_Dims.f, reduce_Is.f, if_pos h27, Option.bind_some, if_neg (by simp; omega), e, Option.bind_some]) (Ev.bind (shape_drop d (Gr.axes op n l) kp ?_) (Ev.now _))
  unfold Gr.axes
  split
  · omega
  · simp
theorem mm_loop (x y : List Int) (hh : Gr.fchk [x, y] = 0) (R : List Int × Int) (h : Ev (fun k => if (x.length : Int) < 2 then matmul_Dims.j1 k x y (x.length : Int) (y.length : Int) true else matmul_Dims.j1 k x y (x.length : Int) (y.length : Int) (decide ((y.length : Int) < 2))) R) :
    Ev (fun k => matmul_Dims.f k x y) R := by
  have c := Gr.fchk_all hh
  have cx := c x (by simp)
  have cy := c y (by simp)
  refine Ev.congr (fun k => by rw [matmul_Dims.f, Option.bind_some]) ?_
  have e1 : wrap64 (0 + 1) = (1 : Int) := w64 (by omega) (by omega)
  have e2 : wrap64 (1 + 1) = (2 : Int) := w64 (by omega) (by omega)
  refine Ev.step (fun k => by rw [matmul_Dims.l0, if_pos (by simp), if_pos (by omega), if_pos (by simp), show rd_L1 [x, y] 0 = x from rfl, shape_check, Option.bind_some, if_pos cx, e1]) ?_
  refine Ev.step (fun k => by rw [matmul_Dims.l0, if_pos (by simp), if_pos (by omega), if_pos (by simp), show rd_L1 [x, y] 1 = y from rfl, shape_check, Option.bind_some, if_pos cy, e2]) ?_
  refine Ev.step (fun k => by rw [matmul_Dims.l0, if_neg (by simp)]) h
theorem mdim (x y : List Int) (hh : Gr.fchk [x, y] = 0) : Ev (fun k => matmul_Dims.f k x y) (Gr.mmd x y) := by
  have c := Gr.fchk_all hh
  have cx := c x (by simp)
  have cy := c y (by simp)
  have x6 := (Gr.chk_ok cx).1
  have y6 := (Gr.chk_ok cy).1
  refine mm_loop x y hh _ ?_
  unfold Gr.mmd
  rw [if_pos hh]
  have jt : Ev (fun k => matmul_Dims.j1 k x y (x.length : Int) (y.length : Int) true) (([] : List Int), (9 : Int)) := Ev.step (fun k => by rw [matmul_Dims.j1, if_pos rfl]) (Ev.now _)
  by_cases h1 : (x.length : Int) < 2
  · rw [if_pos (.inl (by omega))]
    exact Ev.congr (fun k => by rw [if_pos h1]) jt
  · refine Ev.congr (fun k => by rw [if_neg h1]) ?_
    by_cases h2 : (y.length : Int) < 2
    · rw [if_pos (.inr (by omega)), decide_eq_true h2]
      exact jt
    · rw [if_neg (by omega), decide_eq_false h2]
      have w1 : wrap64 ((x.length : Int) - 1) = (x.length : Int) - 1 := w64 (by omega) (by omega)
      have w2 : wrap64 ((x.length : Int) - 2) = (x.length : Int) - 2 := w64 (by omega) (by omega)
      have w3 : wrap64 ((y.length : Int) - 1) = (y.length : Int) - 1 := w64 (by omega) (by omega)
      have w4 : wrap64 ((y.length : Int) - 2) = (y.length : Int) - 2 := w64 (by omega) (by omega)
      have t1 : ((x.length : Int) - 2).toNat = x.length - 2 := by omega
      have t2 : ((y.length : Int) - 2).toNat = y.length - 2 := by omega
      refine Ev.step (fun k => by rw [matmul_Dims.j1, if_neg (by simp), w1, w2, w3, w4, if_pos (by omega), if_pos (by omega), if_pos (by omega), if_pos (by omega), ← at0_rd, ← at0_rd, ← at0_rd, ← at0_rd, t1, t2]) ?_
      by_cases h3 : Gr.at0 x ((x.length : Int) - 1) = Gr.at0 y ((y.length : Int) - 2)
      · rw [if_pos h3]
        refine Ev.congr (fun k => by rw [if_pos h3, if_pos (by omega), if_pos (by omega), if_pos (by omega)]) (Ev.bind (two _ _) ?_)
        have hl := two_fst_le (x.take (x.length - 2)) (y.take (y.length - 2))
        by_cases h4 : (Gr.two (x.take (x.length - 2)) (y.take (y.length - 2))).2 = 0
        · rw [if_pos h4]
          refine Ev.congr (fun k => ?_) (Ev.now _)
          rw [if_pos h4, if_pos (by omega), if_pos (by omega), if_pos (by omega), Option.bind_some, if_pos (by simp; omega), Option.bind_some, shape_check, Option.bind_some]
          show (if Gr.chk (Gr.mmz x y) = 0 then some (Gr.mmz x y, 0) else some (([] : List Int), Gr.chk (Gr.mmz x y))) = _
          split <;> rfl
        · rw [if_neg h4]
          exact Ev.congr (fun k => by rw [if_neg h4]) (Ev.now _)
      · rw [if_neg h3]
        exact Ev.congr (fun k => by rw [if_neg h3]) (Ev.now _)
theorem idims_l (op n a b c p q r s : Int) (kp : Bool) (l : List Int) (dims : List (List Int)) (hn : l.length ≤ 1000) (h1 : 1 ≤ op) (h40 : op ≤ 40) (ha : (dims.length : Int) = Gr.ari op) : ∀ i, i ≤ dims.length → (∀ x ∈ dims.take i, Gr.chk x = 0) →
    Ev (fun k => infer_Dims.l0 k op dims dims (dims.length : Int) (i : Int) n a b c p q r s kp l) (if Gr.fchk (dims.drop i) = 0 then (if Gr.atr op n p q r s cmp4 = true then
    (if Gr.kls op = 1 then Gr.mny [] dims else if Gr.kls op = 2 then Gr.drop (dims.getD 0 []) (Gr.axes op n l) kp else if Gr.kls op = 3 then Gr.mmd (dims.getD 0 []) (dims.getD 1 []) else Gr.mvd op n a b c l dims)
    else ([], 1)) else ([], Gr.fchk (dims.drop i))) := by
  have hr : Gr.ari op = 2 ∨ Gr.ari op = 3 ∨ Gr.ari op = 1 := by
    unfold Gr.ari
    rw [if_pos ⟨h1, h40⟩]
    split
    · exact .inl rfl
    · split
      · exact .inr (.inl rfl)
      · exact .inr (.inr rfl)
  apply down
  · intro hc
    rw [List.take_length] at hc
    rw [List.drop_length, if_pos (show Gr.fchk [] = 0 from rfl)]
    have hp : 0 < dims.length := by omega
    refine Ev.step (fun k => by rw [infer_Dims.l0, if_neg (by omega)]) (Ev.bind (iatr op n a b c p q r s kp l) ?_)
    by_cases g : Gr.atr op n p q r s cmp4 = true
    · rw [if_pos g]
      refine Ev.congr (fun k => by rw [if_pos g, pkls, Option.bind_some]) ?_
      by_cases k1 : Gr.kls op = 1
      · rw [if_pos k1]
        exact Ev.congr (fun k => by rw [if_pos k1]) (Ev.bind (all31 dims (by omega)) (Ev.now _))
      · rw [if_neg k1]
        by_cases k2 : Gr.kls op = 2
        · rw [if_pos k2]
          have : 27 ≤ op ∧ op ≤ 31 := by
            unfold Gr.kls at k1 k2
            rw [if_pos ⟨h1, h40⟩] at k1 k2
            split at k2
            · omega
            · split at k2
              · omega
              · split at k2
                · omega
                · split at k2 <;> omega
          exact Ev.congr (fun k => by rw [if_neg k1, if_pos k2, if_pos (by omega), rd_L0]) (Ev.bind (rdims op n a b c p q r s kp l _ hn this.1 this.2) (Ev.now _))
        · rw [if_neg k2]
          by_cases k3 : Gr.kls op = 3
          · rw [if_pos k3]
            have e32 : op = 32 := by
              unfold Gr.kls at k3
              rw [if_pos ⟨h1, h40⟩] at k3
              split at k3
              · omega
              · split at k3
                · omega
                · split at k3
                  · assumption
                  · split at k3 <;> omega
            have hd2 : dims.length = 2 := by
              unfold Gr.ari at ha
              rw [if_pos ⟨h1, h40⟩, if_pos (.inr (.inl e32))] at ha
              omega
            have f0 : Gr.fchk [dims.getD 0 [], dims.getD 1 []] = 0 := by
              unfold Gr.fchk
              rw [if_pos (hc _ (getD_mem dims 0 (by omega)))]
              unfold Gr.fchk
              rw [if_pos (hc _ (getD_mem dims 1 (by omega)))]
              rfl
            exact Ev.congr (fun k => by rw [if_neg k1, if_neg k2, if_pos k3, if_pos (by omega), if_pos (by omega), rd_L0, rd_L1']) (Ev.bind (mdim _ _ f0) (Ev.now _))
          · rw [if_neg k3]
            exact Ev.congr (fun k => by rw [if_neg k1, if_neg k2, if_neg k3]) (Ev.bind (mdims op n a b c p q r s kp l dims (by omega) hn) (Ev.now _))
    · rw [if_neg g]
      exact Ev.congr (fun k => by rw [if_neg g]) (Ev.now _)
  · intro i hi ih hc
    rw [List.drop_eq_getElem_cons hi]
    unfold Gr.fchk
    by_cases h : Gr.chk dims[i] = 0
    · rw [if_pos h]
      refine Ev.step (fun k => ?_) (ih (fun x hx => ?_))
      · rw [infer_Dims.l0, if_pos (by omega), if_pos (by omega), if_pos (by omega), rdl dims i hi, shape_check, Option.bind_some, if_pos h, nx i _ hi (by omega)]
      · rw [List.take_succ_eq_append_getElem hi, List.mem_append, List.mem_singleton] at hx
        rcases hx with hx | rfl
        · exact hc x hx
        · exact h
    · rw [if_neg h, if_neg h]
      refine Ev.step (fun k => ?_) (Ev.now _)
      rw [infer_Dims.l0, if_pos (by omega), if_pos (by omega), if_pos (by omega), rdl dims i hi, shape_check, Option.bind_some, if_neg h]
theorem idims (op n a b c p q r s : Int) (kp : Bool) (l : List Int) (dims : List (List Int)) (hn : l.length ≤ 1000) : Ev (fun k => infer_Dims.f k op n a b c p q r s kp l dims) (Gr.ifd cmp4 op n a b c p q r s kp l dims) := by
  unfold Gr.ifd
  by_cases h : 1 ≤ op ∧ op ≤ 40
  · rw [if_pos h]
    refine Ev.congr (fun k => by rw [infer_Dims.f, pis, Option.bind_some, if_pos (decide_eq_true h)]) (Ev.bind (pari op) ?_)
    by_cases h2 : (dims.length : Int) = Gr.ari op
    · rw [if_pos h2]
      refine Ev.congr (fun k => by rw [if_pos h2]) ?_
      have := idims_l op n a b c p q r s kp l dims hn h.1 h.2 h2 0 (by omega) (by simp)
      rw [List.drop_zero] at this
      exact this
    · rw [if_neg h2]
      exact Ev.congr (fun k => by rw [if_neg h2]) (Ev.now _)
  · rw [if_neg h]
    refine Ev.congr (fun k => ?_) (Ev.now _)
    rw [infer_Dims.f, pis, Option.bind_some, if_neg (by simpa using h)]
theorem nxL (i n : Nat) (h : i < n) (hn : n ≤ 9223372036854775807) : wrap64 ((i : Int) + 1) = ((i + 1 : Nat) : Int) := by
  rw [w64 (by omega) (by omega)]; omega
theorem many31_l (n a b c p q r s : Int) (kp : Bool) (l : List Int) (dims : List (List Int)) (hn : dims.length ≤ 9223372036854775807) : ∀ i, i ≤ dims.length → ∃ v, (v = false → l.length ≤ 80 ∧ dims.length ≤ 10) ∧ Ev (fun k => gradinelaw31_Many.l0 k dims (dims.length : Int) (i : Int) n a b c p q r s kp l) v := by
  apply down
  · by_cases h : (l.length : Int) > 80
    · refine ⟨true, fun hh => absurd hh (by simp), Ev.step (fun k => ?_) (Ev.now _)⟩
      rw [gradinelaw31_Many.l0, if_neg (by omega), if_pos h]
    · refine ⟨decide ((dims.length : Int) > 10), fun hh => ⟨by omega, by have := of_decide_eq_false hh; omega⟩, Ev.step (fun k => ?_) (Ev.now _)⟩
      rw [gradinelaw31_Many.l0, if_neg (by omega), if_neg h]
  · intro i hi ih
    obtain ⟨v, hv, ih⟩ := ih
    by_cases h : ((dims[i].length : Nat) : Int) > 20
    · refine ⟨true, fun hh => absurd hh (by simp), Ev.step (fun k => ?_) (Ev.now _)⟩
      rw [gradinelaw31_Many.l0, if_pos (by omega), if_pos (by omega), if_pos (by omega), rdl dims i hi, if_pos h]
    · refine ⟨v, hv, Ev.step (fun k => ?_) ih⟩
      rw [gradinelaw31_Many.l0, if_pos (by omega), if_pos (by omega), if_pos (by omega), rdl dims i hi, if_neg h, nxL i _ hi hn]
end Go.Proofs.Ytcdiobcldhiemaa.S
namespace Go.Proofs.Ytcdiobcldhiemaa.Pure
open Go.RowKit Go.Proofs.Ytcdiobcldhiemaa.Q Go.Proofs.Ytcdiobcldhiemaa.S Go.Proofs.YtcdiobcldhiemaaW.PrintWords Go.Proofs.YtcdiobcldhiemaaW.PrintLast
set_option linter.unusedVariables false
set_option linter.unusedSimpArgs false
theorem InferRight (op n a b c p q r s : Int) (kp : Bool) (l : List Int) (dims : List (List Int)) (hn : dims.length ≤ 9223372036854775807) : Ev (fun k => gradinelaw31_InferRight.f k op n a b c p q r s kp l dims) true := by
  have hs : Ev (fun _ : Nat => (gradinelaw31_same.f).bind fun t => some t) true := Ev.now _
  obtain ⟨v, hv, hm⟩ := many31_l n a b c p q r s kp l dims hn 0 (by omega)
  have hm' : Ev (fun k => gradinelaw31_Many.f k n a b c p q r s kp l dims) v := Ev.congr (fun k => by rw [gradinelaw31_Many.f]; rfl) hm
  refine Ev.congr (fun k => by rw [gradinelaw31_InferRight.f]) (Ev.bind hm' ?_)
  cases v with
  | true => exact Ev.congr (fun k => by rw [if_pos rfl]) hs
  | false =>
    obtain ⟨b1, b2⟩ := hv rfl
    refine Ev.congr (fun k => by rw [if_neg (by simp)]) (Ev.bind (idims op n a b c p q r s kp l dims (by omega)) ?_)
    have hr := Gr.rgt_ifd cmp4 op n a b c p q r s kp l dims (fun d m h => axs_length d m h)
    by_cases h : (Gr.ifd cmp4 op n a b c p q r s kp l dims).2 = 0
    · refine Ev.congr (fun k => by rw [if_pos h]) (Ev.bind (ref_check _) ?_)
      exact Ev.congr (fun k => by rw [if_pos (hr.1 h)]) hs
    · refine Ev.congr (fun k => ?_) hs
      rw [if_neg h, if_pos (by rw [hr.2 h]; rfl)]
theorem InferRight_walk (w : World) (op : Int) (_ : (Lit.int .i64 op).wf = true) (n : Int) (_ : (Lit.int .i64 n).wf = true) (a : Int) (_ : (Lit.int .i64 a).wf = true) (b : Int) (_ : (Lit.int .i64 b).wf = true) (c : Int) (_ : (Lit.int .i64 c).wf = true)
    (p : Int) (_ : (Lit.int .i64 p).wf = true) (q : Int) (_ : (Lit.int .i64 q).wf = true) (r : Int) (_ : (Lit.int .i64 r).wf = true) (t : Int) (_ : (Lit.int .i64 t).wf = true) (kp : Bool)
    (A : Option Addr) (cc : Nat) (l : List Int) (hr : Kd.C (Kd.int .i64) w A l.length l) (hc : l.length ≤ cc) (_ : ∀ x ∈ l, (Lit.int .i64 x).wf = true)
    (A2 : Option Addr) (c2 : Nat) (dims : List (List Int)) (hr2 : Kd.C (Kd.slice 3 (Kd.int .i64)) w A2 dims.length dims) (hc2 : dims.length ≤ c2) (hlim : dims.length ≤ maxLen ∧ ∀ x ∈ dims, ∀ y ∈ x, (Lit.int .i64 y).wf = true) :
    Calls Try.prog 7 #[.int .i64 op, .agg #[.int .i64 n, .int .i64 a, .int .i64 b, .int .i64 c, .int .i64 p, .int .i64 q, .int .i64 r, .int .i64 t, .bool kp, .slice A l.length cc], .slice A2 dims.length c2] w fun e w' => e = .returned (.bool true) ∧ Below w.heap.size w w' := by
  obtain ⟨k, h⟩ := (InferRight op n a b c p q r t kp l dims (by have := hlim.1; unfold maxLen at this; omega)).rounds
  exact gradinelaw31_InferRight.calls k op n a b c p q r t kp A cc l A2 c2 dims w hr hc hr2 hc2 h
end Go.Proofs.Ytcdiobcldhiemaa.Pure
namespace Go.Proofs.Ytcdiobcldhiemaa.O
open Go.RowKit Go.Proofs.YtcdiobcldhiemaaW.PrintWords
set_option linter.unusedVariables false
/-- Whatever cells of type t can be read are a value of kind d with 'ok'. -/
def Opens {α : Type} (P : Program) (d : Kd α) (t : TypeId) (ok : α → Prop) : Prop :=
  P.cellsOf t = d.sz ∧ ∀ (H : Type) (enc : TypeId × Value → H) (w : World) (fuel : Nat) (cs : List Value) (x : DataW H × List MemPlace),
    DataW.trod enc P w 0 (fun _ => true) true fuel t cs = some x → ∃ a, d.K w a cs ∧ ok a
theorem opens_int {P : Program} {t : TypeId} (k : IntKind) (ht : P.underlying t = some (.int k)) (hc : P.cellsOf t = 1) : Opens P (Kd.int k) t (fun n => (Lit.int k n).wf = true) := by
  refine ⟨hc, fun H enc w fuel cs x h => ?_⟩
  obtain ⟨n, rfl, _, hw⟩ := DataW.trod_int ht h
  exact ⟨n, rfl, hw⟩
theorem opens_bool {P : Program} {t : TypeId} (ht : P.underlying t = some .bool) (hc : P.cellsOf t = 1) : Opens P Kd.bool t (fun _ => True) := by
  refine ⟨hc, fun H enc w fuel cs x h => ?_⟩
  obtain ⟨n, rfl, _⟩ := DataW.trod_bool ht h
  exact ⟨n, rfl, trivial⟩
theorem opens_string {P : Program} {t : TypeId} (ht : P.underlying t = some .string) (hc : P.cellsOf t = 1) : Opens P Kd.string t (fun s => s.size ≤ maxLen) := by
  refine ⟨hc, fun H enc w fuel cs x h => ?_⟩
  obtain ⟨n, rfl, _, hs⟩ := DataW.trod_string ht h
  exact ⟨n, rfl, hs⟩
theorem cells_each {w : World} {a : Addr} {n : Nat} {cs : List Value} (h : w.cells? 0 a n = some cs) : cs.length = n ∧ ∀ i u, cs[i]? = some u → w.cell? (a.add i) = some u := by
  obtain ⟨h1, h2, h3⟩ := World.cells?_some h
  refine ⟨h2, fun i u hu => ?_⟩
  have hi : i < n := by
    have := (List.getElem?_eq_some_iff.1 hu).1
    omega
  rw [h3 i hi, hu]
theorem opens_slice {α : Type} {P : Program} {t e : TypeId} {d : Kd α} {ok : α → Prop} [Inhabited α] (ht : P.underlying t = some (.slice e)) (hc : P.cellsOf t = 1) (h : Opens P d e ok) :
    Opens P (Kd.slice e d) t (fun l => ∀ x ∈ l, ok x) := by
  refine ⟨hc, fun H enc w fuel cs x hx => ?_⟩
  rcases Go.Deep.open_slice ht hx with ⟨rfl, _⟩ | ⟨a, len, cap, m, n, D, Pl, rfl, _, hl, hm, hmm, _, hel⟩
  · exact ⟨[], ⟨none, 0, rfl, Nat.le_refl _, rfl, by simp, fun h0 => absurd h0 (by simp)⟩, by simp⟩
  · simp only [if_true] at hmm
    subst hmm
    have each : ∀ i, i < m → ∃ y : α, ∃ cs', w.cells? 0 (a.add (i * P.cellsOf e)) (P.cellsOf e) = some cs' ∧ d.K w y cs' ∧ ok y := by
      intro i hi
      obtain ⟨cs', h1, h2⟩ := hel i hi
      obtain ⟨y, h3, h4⟩ := h.2 H enc w n cs' _ h2
      exact ⟨y, cs', h1, h3, h4⟩
    obtain ⟨f, hf⟩ := Go.Deep.choose_lt each
    refine ⟨(List.range len).map f, ⟨some a, m, by simp, by simpa using hl, by simp, ?_, fun _ => ⟨a, rfl, fun j p hp => ?_⟩⟩, ?_⟩
    · simp only [List.length_map, List.length_range]
      unfold maxLen at hm
      omega
    · rw [List.getElem?_map] at hp
      have hj : j < len := by
        apply Decidable.byContradiction
        intro hj
        rw [List.getElem?_eq_none (by simpa using hj)] at hp
        simp at hp
      rw [List.getElem?_eq_getElem (by simpa using hj)] at hp
      simp only [List.getElem_range, Option.map_some, Option.some.injEq] at hp
      subst hp
      obtain ⟨cs', h1, h3, _⟩ := hf j (by omega)
      obtain ⟨h5, h6⟩ := cells_each h1
      refine ⟨cs', by rw [h5, h.1], h3, fun i u hu => ?_⟩
      have := h6 i u hu
      rw [Go.Deep.add_add, h.1] at this
      exact this
    · intro y hy
      simp only [List.mem_map, List.mem_range] at hy
      obtain ⟨i, hi, rfl⟩ := hy
      exact (hf i (by omega)).choose_spec.2.2
theorem opens_sliceL {α : Type} {P : Program} {t e : TypeId} {d : Kd α} {ok : α → Prop} [Inhabited α] (ht : P.underlying t = some (.slice e)) (hc : P.cellsOf t = 1) (h : Opens P d e ok) :
    Opens P (Kd.slice e d) t (fun l => l.length ≤ maxLen ∧ ∀ x ∈ l, ok x) := by
  refine ⟨hc, fun H enc w fuel cs x hx => ?_⟩
  rcases Go.Deep.open_slice ht hx with ⟨rfl, _⟩ | ⟨a, len, cap, m, n, D, Pl, rfl, _, hl, hm, hmm, _, hel⟩
  · exact ⟨[], ⟨none, 0, rfl, Nat.le_refl _, rfl, by simp, fun h0 => absurd h0 (by simp)⟩, by simp, by simp⟩
  · simp only [if_true] at hmm
    subst hmm
    have each : ∀ i, i < m → ∃ y : α, ∃ cs', w.cells? 0 (a.add (i * P.cellsOf e)) (P.cellsOf e) = some cs' ∧ d.K w y cs' ∧ ok y := by
      intro i hi
      obtain ⟨cs', h1, h2⟩ := hel i hi
      obtain ⟨y, h3, h4⟩ := h.2 H enc w n cs' _ h2
      exact ⟨y, cs', h1, h3, h4⟩
    obtain ⟨f, hf⟩ := Go.Deep.choose_lt each
    refine ⟨(List.range len).map f, ⟨some a, m, by simp, by simpa using hl, by simp, ?_, fun _ => ⟨a, rfl, fun j p hp => ?_⟩⟩, by simp only [List.length_map, List.length_range]; omega, ?_⟩
    · simp only [List.length_map, List.length_range]
      unfold maxLen at hm
      omega
    · rw [List.getElem?_map] at hp
      have hj : j < len := by
        apply Decidable.byContradiction
        intro hj
        rw [List.getElem?_eq_none (by simpa using hj)] at hp
        simp at hp
      rw [List.getElem?_eq_getElem (by simpa using hj)] at hp
      simp only [List.getElem_range, Option.map_some, Option.some.injEq] at hp
      subst hp
      obtain ⟨cs', h1, h3, _⟩ := hf j (by omega)
      obtain ⟨h5, h6⟩ := cells_each h1
      refine ⟨cs', by rw [h5, h.1], h3, fun i u hu => ?_⟩
      have := h6 i u hu
      rw [Go.Deep.add_add, h.1] at this
      exact this
    · intro y hy
      simp only [List.mem_map, List.mem_range] at hy
      obtain ⟨i, hi, rfl⟩ := hy
      exact (hf i (by omega)).choose_spec.2.2
/-- The fields of a struct, one by one. -/
theorem field {H : Type} {enc : TypeId × Value → H} {P : Program} {w : World} {t : TypeId} {fs : Array Field} {fuel : Nat} {cs : List Value} {x : DataW H × List MemPlace} (ht : P.underlying t = some (.struct fs)) (h : DataW.trod enc P w 0 (fun _ => true) true fuel t cs = some x)
    (j : Nat) (f : Field) (hj : fs[j]? = some f) : ∃ y n, DataW.trod enc P w 0 (fun _ => true) true n f.type ((cs.drop f.offset).take (P.cellsOf f.type)) = some y := by
  obtain ⟨xs, n, _, rfl, hl, hlen, hf⟩ := DataW.trod_struct ht h
  have hjl : j < fs.size := (Array.getElem?_eq_some_iff.1 hj).1
  exact ⟨xs[j]'(by omega), n, by rw [hf j f hj, List.getElem?_eq_getElem (by omega)]⟩
theorem seg {l : List Value} {j : Nat} {v : Value} {vs : List Value} (h : (l.drop j).take 1 = [v]) (h2 : l.drop (j + 1) = vs) : l.drop j = v :: vs := by
  rw [← h2, ← List.drop_drop]
  rcases hd : l.drop j with _ | ⟨a, m⟩
  · rw [hd] at h; simp at h
  · rw [hd] at h; simp at h; simp [h]
theorem seg_end {l : List Value} {n : Nat} (h : l.length = n) : l.drop n = [] := by rw [← h]; exact List.drop_length
end Go.Proofs.Ytcdiobcldhiemaa.O
