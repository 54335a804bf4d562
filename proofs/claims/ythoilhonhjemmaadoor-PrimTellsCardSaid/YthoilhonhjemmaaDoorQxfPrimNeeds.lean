-- By wip/gprint.py (this session's), out of the kit's print.py.
import Derived.Test.YthoilhonhjemmaaDoorQx0
import Derived.Test.YthoilhonhjemmaaDoorQxfPrimArity
namespace Go.Proofs.YthoilhonhjemmaaDoor.Q
open Go.RowKit Go.Proofs.YthoilhonhjemmaaDoorW.PrintWords Go.Proofs.YthoilhonhjemmaaDoorW.PrintLast Go.Proofs.YthoilhonhjemmaaDoorW.PrintMore
attribute [local go_sem] max2_int min2_int max_two min_two max_three min_three max_four min_four   -- for this text's walks alone
set_option linter.unusedVariables false
set_option linter.unusedSimpArgs false

/-! ### prim_Needs: function 19 -/
mutual
def prim_Needs.j0 : Nat → Int → Int → Int → Bool → Int → Int → Int → Int → Int → Int → Int → Int → Bool → List Int → Option (Bool)
 | 0, _, _, _, _, _, _, _, _, _, _, _, _, _, _ => none
 | k + 1, x0, x2, x7, x21, zb, ze, zf, zg, zh, zi, zj, zk, zl, zm => if x21 = true then (some false) else (if x0 = 2 then (prim_Needs.j1 k x2 (x2 == x7) x0 (x0 == 2) zb ze zf zg zh zi zj zk zl zm) else (if x0 = 7 then (prim_Needs.j1 k x2 (x2 == x7) x0 (x0 == 7) zb ze zf zg zh zi zj zk zl zm) else (if x0 = 9 then (prim_Needs.j1 k x2 (x2 == x7) x0 (x0 == 9) zb ze zf zg zh zi zj zk zl zm) else (if x0 = 10 then (prim_Needs.j1 k x2 (x2 == x7) x0 (x0 == 10) zb ze zf zg zh zi zj zk zl zm) else (prim_Needs.j1 k x2 (x2 == x7) x0 (x0 == 11) zb ze zf zg zh zi zj zk zl zm)))))
def prim_Needs.j1 : Nat → Int → Bool → Int → Bool → Int → Int → Int → Int → Int → Int → Int → Int → Bool → List Int → Option (Bool)
 | 0, _, _, _, _, _, _, _, _, _, _, _, _, _, _ => none
 | k + 1, x2, x8, x25, x26, zb, ze, zf, zg, zh, zi, zj, zk, zl, zm => if x26 = true then (some x8) else (if x25 = 3 then (prim_Needs.j2 k x2 x8 x25 (x25 == 3) zb ze zf zg zh zi zj zk zl zm) else (prim_Needs.j2 k x2 x8 x25 (x25 == 8) zb ze zf zg zh zi zj zk zl zm))
def prim_Needs.j2 : Nat → Int → Bool → Int → Bool → Int → Int → Int → Int → Int → Int → Int → Int → Bool → List Int → Option (Bool)
 | 0, _, _, _, _, _, _, _, _, _, _, _, _, _, _ => none
 | k + 1, x2, x8, x25, x33, zb, ze, zf, zg, zh, zi, zj, zk, zl, zm => if x33 = true then (some (!x8)) else (if x25 = 12 then (if x8 = true then (some false) else (if zb = 0 then (some false) else (some (zb != 1)))) else (if x25 = 19 then (prim_Needs.j3 k x2 x8 x25 (x25 == 19)) else (if x25 = 32 then (prim_Needs.j3 k x2 x8 x25 (x25 == 32)) else (prim_Needs.j3 k x2 x8 x25 (x25 == 26)))))
def prim_Needs.j3 : Nat → Int → Bool → Int → Bool → Option (Bool)
 | 0, _, _, _, _ => none
 | k + 1, x2, x8, x25, x52 => if x52 = true then (some (!x8)) else (if x25 = 20 then (some (decide (x2 > 0))) else (if x25 = 25 then (some (decide (x2 < 2))) else (some false)))
end
def prim_Needs.f (k : Nat) (a0 : Int) (a1_0 : Int) (a1_1 : Int) (a1_2 : Int) (a1_3 : Int) (a1_4 : Int) (a1_5 : Int) (a1_6 : Int) (a1_7 : Int) (a1_8 : Bool) (l1_9 : List Int) (a2 : Int) : Option (Bool) := (prim_Arity.f k a0).bind fun zc => (if a2 < 0 then (prim_Needs.j0 k a0 a2 zc true a1_0 a1_1 a1_2 a1_3 a1_4 a1_5 a1_6 a1_7 a1_8 l1_9) else (if a2 > zc then (prim_Needs.j0 k a0 a2 zc true a1_0 a1_1 a1_2 a1_3 a1_4 a1_5 a1_6 a1_7 a1_8 l1_9) else (prim_Needs.j0 k a0 a2 zc (zc == 0) a1_0 a1_1 a1_2 a1_3 a1_4 a1_5 a1_6 a1_7 a1_8 l1_9)))
set_option maxHeartbeats 8000000 in
set_option maxRecDepth 100000 in
theorem prim_Needs.calls (k : Nat) (a0 : Int) (a1_0 : Int) (a1_1 : Int) (a1_2 : Int) (a1_3 : Int) (a1_4 : Int) (a1_5 : Int) (a1_6 : Int) (a1_7 : Int) (a1_8 : Bool) (A1_9 : Option Addr) (c1_9 : Nat) (l1_9 : List Int) (a2 : Int) (r : Bool) (w : World) (hr1_9 : Kd.C (Kd.int .i64) w A1_9 l1_9.length l1_9) (hc1_9 : l1_9.length ≤ c1_9) (h : prim_Needs.f k a0 a1_0 a1_1 a1_2 a1_3 a1_4 a1_5 a1_6 a1_7 a1_8 l1_9 a2 = some r) :
  Calls Tryd.prog 19 #[.int .i64 a0, .agg #[.int .i64 a1_0, .int .i64 a1_1, .int .i64 a1_2, .int .i64 a1_3, .int .i64 a1_4, .int .i64 a1_5, .int .i64 a1_6, .int .i64 a1_7, .bool a1_8, .slice A1_9 l1_9.length c1_9], .int .i64 a2] w fun e w' => e = .returned (.bool r) ∧ Below w.heap.size w w' := by
 have hu29 := Tryd.underlying29
 have HR1_9 := aM hr1_9
 have HC1_9 := aM hc1_9
 clear hr1_9 hc1_9
 have HB := aM (Below.refl w.heap.size w)
 have H : ((prim_Arity.f k a0).bind fun zc => (if a2 < 0 then (prim_Needs.j0 k a0 a2 zc true a1_0 a1_1 a1_2 a1_3 a1_4 a1_5 a1_6 a1_7 a1_8 l1_9) else (if a2 > zc then (prim_Needs.j0 k a0 a2 zc true a1_0 a1_1 a1_2 a1_3 a1_4 a1_5 a1_6 a1_7 a1_8 l1_9) else (prim_Needs.j0 k a0 a2 zc (zc == 0) a1_0 a1_1 a1_2 a1_3 a1_4 a1_5 a1_6 a1_7 a1_8 l1_9)))) = some r := h
 clear h
 replace H := Option.bind_eq_some_iff.mp H
 obtain ⟨zc, A40, H⟩ := H
 try dsimp only at H
 have A4 := aM A40
 clear A40
 have HC5 := aM H
 clear H
 go_enter Tryd.func19, Tryd.ntmps19
 go_upto_region 2 with (first | ((with_reducible refine gate_dst (N := 4) rfl ?_); refine box_event ?hg (N := 4) ?hd (cs := #[.int .i64 a1_0, .int .i64 a1_1, .int .i64 a1_2, .int .i64 a1_3, .int .i64 a1_4, .int .i64 a1_5, .int .i64 a1_6, .int .i64 a1_7, .bool a1_8, .slice A1_9 l1_9.length c1_9]) (t := 29) ?hr ?_; (case hd => rfl); (case hg => rfl); (case hr => first | (go_simp; done) | (go_simp; rfl)); intro zq hg w6 hbox hb; have zd := aM (hbox); have GW103 := gE (w := w) hg (qB HB); have za := GW103; replace HB := bS (qB HB) hb; clear hb hbox hg) | ((with_reducible refine gate_callee (f := 12) rfl ?_); refine goesL_ (some 10) rfl rfl Tryd.func12 (by kernel_rfl) rfl #[.int .i64 a0] rfl pA ?_; (with_reducible refine (prim_Arity.calls k a0 zc _ A4.out).mono ?_); rintro e w' ⟨rfl, ⟨nd, rfl⟩⟩; refine ⟨_, rfl, ?_⟩))
 (try simp only [Act.put, sP])
 go_cut [21] (fun v21 wc => ∃ (kq : Nat) (x21_4 : Bool), v21 = .bool x21_4 ∧ Aside0 (prim_Needs.j0 kq a0 a2 zc x21_4 a1_0 a1_1 a1_2 a1_3 a1_4 a1_5 a1_6 a1_7 a1_8 l1_9 = some r) ∧ Aside0 (kq ≤ k) ∧ Aside0 (wc.heap[zq]? = some (.cells #[.int .i64 a1_0, .int .i64 a1_1, .int .i64 a1_2, .int .i64 a1_3, .int .i64 a1_4, .int .i64 a1_5, .int .i64 a1_6, .int .i64 a1_7, .bool a1_8, (.slice A1_9 l1_9.length c1_9)] 29 (0, 0))) ∧ Aside0 (Below w.heap.size w wc))
 case first =>
  have H := HC5.out
  clear HC5
  by_cases c7 : a2 < 0
  ·rw [if_pos c7] at H
   have zr : decide (a2 < 0) = true := decide_eq_true c7
   clear c7
   (first | rw [zr] | (simp only [i64_w, i32_w]; rw [zr]) | skip)
   have H' := aM H
   clear H
   go_wp2
   go_meet
   case rel => exact ⟨_, (true), (pF), H', ⟨by first | omega | exact Nat.le_refl _⟩, ⟨pK zd.out⟩, ⟨qB1 HB za⟩⟩
  rw [if_neg c7] at H
  have zr : decide (a2 < 0) = false := decide_eq_false c7
  clear c7
  (first | rw [zr] | (simp only [i64_w, i32_w]; rw [zr]) | skip)
  by_cases c8 : a2 > zc
  ·rw [if_pos c8] at H
   have c8b0 : decide (zc < a2) = true := decide_eq_true c8
   clear c8
   have H' := aM H
   clear H
   go_wp2
   go_meet
   case rel => exact ⟨_, (true), (pF), H', ⟨by first | omega | exact Nat.le_refl _⟩, ⟨pK zd.out⟩, ⟨qB1 HB za⟩⟩
  rw [if_neg c8] at H
  have c8b0 : decide (zc < a2) = false := decide_eq_false c8
  clear c8
  have H' := aM H
  clear H
  go_wp2
  go_meet
  case rel => exact ⟨_, ((zc == 0)), (pF), H', ⟨by first | omega | exact Nat.le_refl _⟩, ⟨pK zd.out⟩, ⟨qB1 HB za⟩⟩
 case rest =>
  clear HC5
  obtain ⟨kq, x21_4, rfl, HA, HJ4, zd, HB⟩ := hcut
  cases kq with
  | zero => exact absurd HA.out (by simp [prim_Needs.j0])
  | succ kj4 =>
   have H := HA.out
   clear HA
   simp only [prim_Needs.j0] at H
   by_cases c9 : x21_4 = true
   ·subst c9
    rw [if_pos rfl] at H
    obtain rfl := Option.some.inj H
    go_wp2
    go_ret
    exact ⟨pE, qB1 HB za⟩
   replace c9 := Bool.eq_false_iff.mpr c9
   subst c9
   rw [if_neg (show ¬ (false = true) by decide)] at H
   have HC10 := aM H
   clear H
   go_upto_if 26 with (fail)
   go_cut [26] (fun v26 wc => ∃ (kq : Nat) (x26_9 : Bool), v26 = .bool x26_9 ∧ Aside0 (prim_Needs.j1 kq a2 (a2 == zc) a0 x26_9 a1_0 a1_1 a1_2 a1_3 a1_4 a1_5 a1_6 a1_7 a1_8 l1_9 = some r) ∧ Aside0 (kq ≤ kj4) ∧ Aside0 (wc.heap[zq]? = some (.cells #[.int .i64 a1_0, .int .i64 a1_1, .int .i64 a1_2, .int .i64 a1_3, .int .i64 a1_4, .int .i64 a1_5, .int .i64 a1_6, .int .i64 a1_7, .bool a1_8, (.slice A1_9 l1_9.length c1_9)] 29 (0, 0))) ∧ Aside0 (Below w.heap.size w wc))
   case first =>
    have H := HC10.out
    clear HC10
    by_cases c11 : a0 = 2
    ·rw [if_pos c11] at H
     have zn : (a0 == 2) = true := beq_iff_eq.mpr c11
     have c11b1 : (a0 != 2) = false := bne_eq_false_iff_eq.mpr c11
     clear c11
     (first | rw [zn] | (simp only [i64_w, i32_w]; rw [zn]) | skip)
     have H' := aM H
     clear H
     go_wp2
     go_meet
     case rel => exact ⟨_, ((a0 == 2)), (pF), H', ⟨by have := HJ4.out; first | omega | exact Nat.le_refl _⟩, ⟨pK zd.out⟩, ⟨qB1 HB za⟩⟩
    rw [if_neg c11] at H
    have zn : (a0 == 2) = false := beq_eq_false_iff_ne.mpr c11
    have c11b1 : (a0 != 2) = true := bne_iff_ne.mpr c11
    (first | rw [zn] | (simp only [i64_w, i32_w]; rw [zn]) | skip)
    by_cases c12 : a0 = 7
    ·rw [if_pos c12] at H
     have c12b0 : (a0 == 7) = true := beq_iff_eq.mpr c12
     have c12b1 : (a0 != 7) = false := bne_eq_false_iff_eq.mpr c12
     clear c12
     have H' := aM H
     clear H
     go_wp2
     go_meet
     case rel => exact ⟨_, ((a0 == 7)), (pF), H', ⟨by have := HJ4.out; first | omega | exact Nat.le_refl _⟩, ⟨pK zd.out⟩, ⟨qB1 HB za⟩⟩
    rw [if_neg c12] at H
    have c12b0 : (a0 == 7) = false := beq_eq_false_iff_ne.mpr c12
    have c12b1 : (a0 != 7) = true := bne_iff_ne.mpr c12
    by_cases c13 : a0 = 9
    ·rw [if_pos c13] at H
     have c13b0 : (a0 == 9) = true := beq_iff_eq.mpr c13
     have c13b1 : (a0 != 9) = false := bne_eq_false_iff_eq.mpr c13
     clear c13
     have H' := aM H
     clear H
     go_wp2
     go_meet
     case rel => exact ⟨_, ((a0 == 9)), (pF), H', ⟨by have := HJ4.out; first | omega | exact Nat.le_refl _⟩, ⟨pK zd.out⟩, ⟨qB1 HB za⟩⟩
    rw [if_neg c13] at H
    have c13b0 : (a0 == 9) = false := beq_eq_false_iff_ne.mpr c13
    have c13b1 : (a0 != 9) = true := bne_iff_ne.mpr c13
    by_cases c14 : a0 = 10
    rotate_left
    ·rw [if_neg c14] at H
     have c14b0 : (a0 == 10) = false := beq_eq_false_iff_ne.mpr c14
     have c14b1 : (a0 != 10) = true := bne_iff_ne.mpr c14
     have H' := aM H
     clear H
     go_wp2
     go_meet
     case rel => exact ⟨_, ((a0 == 11)), (pF), H', ⟨by have := HJ4.out; first | omega | exact Nat.le_refl _⟩, ⟨pK zd.out⟩, ⟨qB1 HB za⟩⟩
    rw [if_pos c14] at H
    have c14b0 : (a0 == 10) = true := beq_iff_eq.mpr c14
    have c14b1 : (a0 != 10) = false := bne_eq_false_iff_eq.mpr c14
    clear c14
    have H' := aM H
    clear H
    go_wp2
    go_meet
    case rel => exact ⟨_, ((a0 == 10)), (pF), H', ⟨by have := HJ4.out; first | omega | exact Nat.le_refl _⟩, ⟨pK zd.out⟩, ⟨qB1 HB za⟩⟩
   case rest =>
    clear HC10
    try clear c9
    obtain ⟨kq, x26_9, rfl, HA, HJ9, zd, HB⟩ := hcut
    cases kq with
    | zero => exact absurd HA.out (by simp [prim_Needs.j1])
    | succ kj9 =>
     have H := HA.out
     clear HA
     simp only [prim_Needs.j1] at H
     by_cases c15 : x26_9 = true
     ·subst c15
      rw [if_pos rfl] at H
      obtain rfl := Option.some.inj H
      go_wp2
      go_ret
      exact ⟨pE, qB1 HB za⟩
     replace c15 := Bool.eq_false_iff.mpr c15
     subst c15
     rw [if_neg (show ¬ (false = true) by decide)] at H
     have HC16 := aM H
     clear H
     go_upto_if 33 with (fail)
     go_cut [33] (fun v33 wc => ∃ (kq : Nat) (x33_15 : Bool), v33 = .bool x33_15 ∧ Aside0 (prim_Needs.j2 kq a2 (a2 == zc) a0 x33_15 a1_0 a1_1 a1_2 a1_3 a1_4 a1_5 a1_6 a1_7 a1_8 l1_9 = some r) ∧ Aside0 (kq ≤ kj9) ∧ Aside0 (wc.heap[zq]? = some (.cells #[.int .i64 a1_0, .int .i64 a1_1, .int .i64 a1_2, .int .i64 a1_3, .int .i64 a1_4, .int .i64 a1_5, .int .i64 a1_6, .int .i64 a1_7, .bool a1_8, (.slice A1_9 l1_9.length c1_9)] 29 (0, 0))) ∧ Aside0 (Below w.heap.size w wc))
     case first =>
      have H := HC16.out
      clear HC16
      by_cases c17 : a0 = 3
      rotate_left
      ·rw [if_neg c17] at H
       have zo : (a0 == 3) = false := beq_eq_false_iff_ne.mpr c17
       have c17b1 : (a0 != 3) = true := bne_iff_ne.mpr c17
       (first | rw [zo] | (simp only [i64_w, i32_w]; rw [zo]) | skip)
       have H' := aM H
       clear H
       go_wp2
       go_meet
       case rel => exact ⟨_, ((a0 == 8)), (pF), H', ⟨by have := HJ4.out; have := HJ9.out; first | omega | exact Nat.le_refl _⟩, ⟨pK zd.out⟩, ⟨qB1 HB za⟩⟩
      rw [if_pos c17] at H
      have zo : (a0 == 3) = true := beq_iff_eq.mpr c17
      have c17b1 : (a0 != 3) = false := bne_eq_false_iff_eq.mpr c17
      clear c17
      (first | rw [zo] | (simp only [i64_w, i32_w]; rw [zo]) | skip)
      have H' := aM H
      clear H
      go_wp2
      go_meet
      case rel => exact ⟨_, ((a0 == 3)), (pF), H', ⟨by have := HJ4.out; have := HJ9.out; first | omega | exact Nat.le_refl _⟩, ⟨pK zd.out⟩, ⟨qB1 HB za⟩⟩
     case rest =>
      clear HC16
      try clear c15
      obtain ⟨kq, x33_15, rfl, HA, zu, zd, HB⟩ := hcut
      cases kq with
      | zero => exact absurd HA.out (by simp [prim_Needs.j2])
      | succ kj15 =>
       have H := HA.out
       clear HA
       simp only [prim_Needs.j2] at H
       by_cases c18 : x33_15 = true
       ·subst c18
        rw [if_pos rfl] at H
        obtain rfl := Option.some.inj H
        go_wp2
        go_ret
        exact ⟨pE, qB1 HB za⟩
       replace c18 := Bool.eq_false_iff.mpr c18
       subst c18
       rw [if_neg (show ¬ (false = true) by decide)] at H
       by_cases c19 : a0 = 12
       ·rw [if_pos c19] at H
        have zs : (a0 == 12) = true := beq_iff_eq.mpr c19
        have zt : (a0 != 12) = false := bne_eq_false_iff_eq.mpr c19
        clear c19
        by_cases c20 : (a2 == zc) = true
        ·rw [if_pos c20] at H
         have c20b0 : (a2 == zc) = true := c20
         (try (have c20b1 : decide (a2 = zc) = true := by simpa using c20))
         (try (have c20b2 : (a2 == zc) = true := by simpa using c20))
         clear c20
         obtain rfl := Option.some.inj H
         go_wp2
         go_ret
         exact ⟨pE, qB1 HB za⟩
        rw [if_neg c20] at H
        have c20b0 : (a2 == zc) = false := by simpa using c20
        (try (have c20b1 : decide (a2 = zc) = false := by simpa using c20))
        (try (have c20b2 : (a2 == zc) = false := by simpa using c20))
        (try (have c20b3 : ¬ (a2 = zc) := by simpa using c20))
        clear c20
        by_cases c21 : a1_0 = 0
        rotate_left
        ·rw [if_neg c21] at H
         have c21b0 : (a1_0 == 0) = false := beq_eq_false_iff_ne.mpr c21
         have c21b1 : (a1_0 != 0) = true := bne_iff_ne.mpr c21
         obtain rfl := Option.some.inj H
         obtain ⟨hcz23_0, hcz23_1, hcz23_2, hcz23_3, hcz23_4, hcz23_5, hcz23_6, hcz23_7, hcz23_8, hcz23_9, hfz23_0, hfz23_1, hfz23_2, hfz23_3, hfz23_4, hfz23_5, hfz23_6, hfz23_7, hfz23_8, hfz23_9⟩ := blk10 zd.out
         go_wp2
         go_ret
         exact ⟨pE, qB1 HB za⟩
        rw [if_pos c21] at H
        have c21b0 : (a1_0 == 0) = true := beq_iff_eq.mpr c21
        have c21b1 : (a1_0 != 0) = false := bne_eq_false_iff_eq.mpr c21
        clear c21
        obtain rfl := Option.some.inj H
        obtain ⟨hcz22_0, hcz22_1, hcz22_2, hcz22_3, hcz22_4, hcz22_5, hcz22_6, hcz22_7, hcz22_8, hcz22_9, hfz22_0, hfz22_1, hfz22_2, hfz22_3, hfz22_4, hfz22_5, hfz22_6, hfz22_7, hfz22_8, hfz22_9⟩ := blk10 zd.out
        go_wp2
        go_ret
        exact ⟨pE, qB1 HB za⟩
       rw [if_neg c19] at H
       have zs : (a0 == 12) = false := beq_eq_false_iff_ne.mpr c19
       have zt : (a0 != 12) = true := bne_iff_ne.mpr c19
       have HC24 := aM H
       clear H
       go_upto_if 52 with (fail)
       go_cut [52] (fun v52 wc => ∃ (kq : Nat) (x52_23 : Bool), v52 = .bool x52_23 ∧ Aside0 (prim_Needs.j3 kq a2 (a2 == zc) a0 x52_23 = some r) ∧ Aside0 (kq ≤ kj15) ∧ Aside0 (wc.heap[zq]? = some (.cells #[.int .i64 a1_0, .int .i64 a1_1, .int .i64 a1_2, .int .i64 a1_3, .int .i64 a1_4, .int .i64 a1_5, .int .i64 a1_6, .int .i64 a1_7, .bool a1_8, (.slice A1_9 l1_9.length c1_9)] 29 (0, 0))) ∧ Aside0 (Below w.heap.size w wc))
       case first =>
        have H := HC24.out
        clear HC24
        by_cases c25 : a0 = 19
        ·rw [if_pos c25] at H
         have zp : (a0 == 19) = true := beq_iff_eq.mpr c25
         have c25b1 : (a0 != 19) = false := bne_eq_false_iff_eq.mpr c25
         clear c25
         (first | rw [zp] | (simp only [i64_w, i32_w]; rw [zp]) | skip)
         have H' := aM H
         clear H
         go_wp2
         go_meet
         case rel => exact ⟨_, ((a0 == 19)), (pF), H', ⟨by have := HJ4.out; have := HJ9.out; have := zu.out; first | omega | exact Nat.le_refl _⟩, ⟨pK zd.out⟩, ⟨qB1 HB za⟩⟩
        rw [if_neg c25] at H
        have zp : (a0 == 19) = false := beq_eq_false_iff_ne.mpr c25
        have c25b1 : (a0 != 19) = true := bne_iff_ne.mpr c25
        (first | rw [zp] | (simp only [i64_w, i32_w]; rw [zp]) | skip)
        by_cases c26 : a0 = 32
        rotate_left
        ·rw [if_neg c26] at H
         have c26b0 : (a0 == 32) = false := beq_eq_false_iff_ne.mpr c26
         have c26b1 : (a0 != 32) = true := bne_iff_ne.mpr c26
         have H' := aM H
         clear H
         go_wp2
         go_meet
         case rel => exact ⟨_, ((a0 == 26)), (pF), H', ⟨by have := HJ4.out; have := HJ9.out; have := zu.out; first | omega | exact Nat.le_refl _⟩, ⟨pK zd.out⟩, ⟨qB1 HB za⟩⟩
        rw [if_pos c26] at H
        have c26b0 : (a0 == 32) = true := beq_iff_eq.mpr c26
        have c26b1 : (a0 != 32) = false := bne_eq_false_iff_eq.mpr c26
        clear c26
        have H' := aM H
        clear H
        go_wp2
        go_meet
        case rel => exact ⟨_, ((a0 == 32)), (pF), H', ⟨by have := HJ4.out; have := HJ9.out; have := zu.out; first | omega | exact Nat.le_refl _⟩, ⟨pK zd.out⟩, ⟨qB1 HB za⟩⟩
       case rest =>
        clear HC24
        try clear c18
        try clear c19
        try clear zs
        try clear zt
        obtain ⟨kq, x52_23, rfl, HA, HJ23, zd, HB⟩ := hcut
        cases kq with
        | zero => exact absurd HA.out (by simp [prim_Needs.j3])
        | succ kj23 =>
         have H := HA.out
         clear HA
         simp only [prim_Needs.j3] at H
         by_cases c27 : x52_23 = true
         ·subst c27
          rw [if_pos rfl] at H
          obtain rfl := Option.some.inj H
          go_wp2
          go_ret
          exact ⟨pE, qB1 HB za⟩
         replace c27 := Bool.eq_false_iff.mpr c27
         subst c27
         rw [if_neg (show ¬ (false = true) by decide)] at H
         by_cases c28 : a0 = 20
         ·rw [if_pos c28] at H
          have c28b0 : (a0 == 20) = true := beq_iff_eq.mpr c28
          have c28b1 : (a0 != 20) = false := bne_eq_false_iff_eq.mpr c28
          clear c28
          obtain rfl := Option.some.inj H
          go_wp2
          go_ret
          exact ⟨pE, qB1 HB za⟩
         rw [if_neg c28] at H
         have c28b0 : (a0 == 20) = false := beq_eq_false_iff_ne.mpr c28
         have c28b1 : (a0 != 20) = true := bne_iff_ne.mpr c28
         by_cases c29 : a0 = 25
         ·rw [if_pos c29] at H
          have c29b0 : (a0 == 25) = true := beq_iff_eq.mpr c29
          have c29b1 : (a0 != 25) = false := bne_eq_false_iff_eq.mpr c29
          clear c29
          obtain rfl := Option.some.inj H
          go_wp2
          go_ret
          exact ⟨pE, qB1 HB za⟩
         rw [if_neg c29] at H
         have c29b0 : (a0 == 25) = false := beq_eq_false_iff_ne.mpr c29
         have c29b1 : (a0 != 25) = true := bne_iff_ne.mpr c29
         obtain rfl := Option.some.inj H
         go_wp2
         go_ret
         exact ⟨pE, qB1 HB za⟩

end Go.Proofs.YthoilhonhjemmaaDoor.Q
