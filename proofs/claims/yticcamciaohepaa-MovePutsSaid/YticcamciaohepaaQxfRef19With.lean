-- By wip/gprint.py (this session's), out of the kit's print.py.
import Derived.Test.YticcamciaohepaaQx0
import Derived.Test.YticcamciaohepaaQxfRef19Check
namespace Go.Proofs.Yticcamciaohepaa.Q
open Go.RowKit Go.Proofs.YticcamciaohepaaW.PrintWords Go.Proofs.YticcamciaohepaaW.PrintLast Go.Proofs.YticcamciaohepaaW.PrintMore
attribute [local go_sem] max2_int min2_int max_two min_two max_three min_three max_four min_four   -- for this text's walks alone
set_option linter.unusedVariables false
set_option linter.unusedSimpArgs false

/-! ### gradineref19_With: function 29 -/
mutual
def gradineref19_With.j0 : Nat → List Int → Int → Int → Bool → Option (List Int × Int)
 | 0, _, _, _, _ => none
 | k + 1, x0, x1, x2, x23 => if x23 = true then (some (([] : List Int), 10)) else (gradineref19_With.l0 k x0 x1 x2 ([] : List Int) (x0.length : Int) 0)
def gradineref19_With.l0 : Nat → List Int → Int → Int → List Int → Int → Int → Option (List Int × Int)
 | 0, _, _, _, _, _, _ => none
 | k + 1, x0, x1, x2, x9, x25, x26 => if x26 < x25 then (if x26 = x1 then (if x9.length < 17592186044416 then (gradineref19_With.l0 k x0 x1 x2 (x9 ++ [x2]) x25 (wrap64 (x26 + 1))) else (none)) else (if 0 ≤ x26 then (if x26 < (x0.length : Int) then (if x9.length < 17592186044416 then (gradineref19_With.l0 k x0 x1 x2 (x9 ++ [rd x0 x26]) x25 (wrap64 (x26 + 1))) else (none)) else (none)) else (none))) else ((gradineref19_Check.f k x9).bind fun zc => (if zc = 0 then (some (x9, 0)) else (some (([] : List Int), zc))))
end
def gradineref19_With.f (k : Nat) (l0 : List Int) (a1 : Int) (a2 : Int) : Option (List Int × Int) := (gradineref19_Check.f k l0).bind fun za => (if za = 0 then (if a1 < 0 then (gradineref19_With.j0 k l0 a1 a2 true) else (gradineref19_With.j0 k l0 a1 a2 (decide (a1 ≥ (l0.length : Int))))) else (some (([] : List Int), za)))
set_option maxHeartbeats 8000000 in
set_option maxRecDepth 100000 in
theorem gradineref19_With.calls (k : Nat) (A0 : Option Addr) (c0 : Nat) (l0 : List Int) (a1 : Int) (a2 : Int) (r1 : List Int) (r2 : Int) (w : World) (hr0 : Kd.C (Kd.int .i64) w A0 l0.length l0) (hc0 : l0.length ≤ c0) (h : gradineref19_With.f k l0 a1 a2 = some (r1, r2)) :
  Calls Try.prog 29 #[.slice A0 l0.length c0, .int .i64 a1, .int .i64 a2] w fun e w' => ∃ v0_ : Value, e = .returned (.tuple #[v0_, .int .i64 r2]) ∧ Kd.R (Kd.int .i64) 3 w' w.heap.size (fun _ => True) v0_ r1 ∧ Below w.heap.size w w' := by
 have HR0 := aM hr0
 have HC0 := aM hc0
 clear hr0 hc0
 have HB := aM (Below.refl w.heap.size w)
 have H : ((gradineref19_Check.f k l0).bind fun za => (if za = 0 then (if a1 < 0 then (gradineref19_With.j0 k l0 a1 a2 true) else (gradineref19_With.j0 k l0 a1 a2 (decide (a1 ≥ (l0.length : Int))))) else (some (([] : List Int), za)))) = some (r1, r2) := h
 clear h
 replace H := Option.bind_eq_some_iff.mp H
 obtain ⟨za, A40, H⟩ := H
 try dsimp only at H
 have A4 := aM A40
 clear A40
 by_cases c5 : za = 0
 rotate_left
 ·rw [if_neg c5] at H
  have zg : (za == 0) = false := beq_eq_false_iff_ne.mpr c5
  have zh : (za != 0) = true := bne_iff_ne.mpr c5
  simp only [Option.some.injEq, Prod.mk.injEq] at H
  obtain ⟨rfl, rfl⟩ := H
  go_enter Try.func29, Try.ntmps29
  go_wp2_with (first | ((with_reducible refine gate_callee (f := 14) rfl ?_); refine goesL_ (some 12) rfl rfl Try.func14 (by kernel_rfl) rfl #[.slice A0 l0.length c0] rfl pA ?_; (with_reducible refine (gradineref19_Check.calls k _ _ l0 za _ ?s1 ?s2 A4.out).mono ?_); (case s1 => exact pC HR0.out); (case s2 => exact HC0.out); rintro e w' ⟨rfl, ⟨nd, rfl⟩⟩; refine ⟨_, rfl, ?_⟩))
  go_ret2
  exact ⟨_, pE, pN, qB HB⟩

 rw [if_pos c5] at H
 have zg : (za == 0) = true := beq_iff_eq.mpr c5
 have zh : (za != 0) = false := bne_eq_false_iff_eq.mpr c5
 clear c5
 have HC6 := aM H
 clear H
 go_enter Try.func29, Try.ntmps29
 go_upto_region 4 with (first | ((with_reducible refine gate_callee (f := 14) rfl ?_); refine goesL_ (some 12) rfl rfl Try.func14 (by kernel_rfl) rfl #[.slice A0 l0.length c0] rfl pA ?_; (with_reducible refine (gradineref19_Check.calls k _ _ l0 za _ ?s1 ?s2 A4.out).mono ?_); (case s1 => exact pC HR0.out); (case s2 => exact HC0.out); rintro e w' ⟨rfl, ⟨nd, rfl⟩⟩; refine ⟨_, rfl, ?_⟩))
 (try simp only [Act.put, sP])
 go_cut [23] (fun v23 wc => ∃ (kq : Nat) (x23_5 : Bool), v23 = .bool x23_5 ∧ Aside0 (gradineref19_With.j0 kq l0 a1 a2 x23_5 = some (r1, r2)) ∧ Aside0 (kq ≤ k) ∧ Aside0 (Below w.heap.size w wc))
 case first =>
  have H := HC6.out
  clear HC6
  by_cases c7 : a1 < 0
  ·rw [if_pos c7] at H
   have zd : decide (a1 < 0) = true := decide_eq_true c7
   clear c7
   (first | rw [zd] | (simp only [i64_w, i32_w]; rw [zd]) | skip)
   have H' := aM H
   clear H
   go_wp2
   go_meet
   case rel => exact ⟨_, (true), (pF), H', ⟨by first | omega | exact Nat.le_refl _⟩, ⟨qB HB⟩⟩
  rw [if_neg c7] at H
  have zd : decide (a1 < 0) = false := decide_eq_false c7
  clear c7
  (first | rw [zd] | (simp only [i64_w, i32_w]; rw [zd]) | skip)
  have H' := aM H
  clear H
  go_wp2
  go_meet
  case rel => exact ⟨_, (decide (a1 ≥ (l0.length : Int))), (pF), H', ⟨by first | omega | exact Nat.le_refl _⟩, ⟨qB HB⟩⟩
 case rest =>
  clear HC6
  try clear zg
  try clear zh
  obtain ⟨kq, x23_5, rfl, HA, HJ5, HB⟩ := hcut
  cases kq with
  | zero => exact absurd HA.out (by simp [gradineref19_With.j0])
  | succ kj5 =>
   have H := HA.out
   clear HA
   simp only [gradineref19_With.j0] at H
   by_cases c8 : x23_5 = true
   ·subst c8
    rw [if_pos rfl] at H
    simp only [Option.some.injEq, Prod.mk.injEq] at H
    obtain ⟨rfl, rfl⟩ := H
    go_wp2
    go_ret2
    exact ⟨_, pE, pN, qB HB⟩
   replace c8 := Bool.eq_false_iff.mpr c8
   subst c8
   rw [if_neg (show ¬ (false = true) by decide)] at H
   have H' := aM H
   clear H
   go_wp2
   go_loopg [9, 26] kj5 (fun kq v9 v26 w' => ∃ (x9_2 : List Int) (x26_2 : Int), v26 = .int .i64 x26_2 ∧ Aside0 (gradineref19_With.l0 kq l0 a1 a2 x9_2 (l0.length : Int) x26_2 = some (r1, r2)) ∧ Aside0 (kq ≤ kj5) ∧ Aside0 (Kd.R (Kd.int .i64) 3 w' w.heap.size (fun _ => True) v9 x9_2) ∧ Aside0 (Below w.heap.size w w'))
   case atStart => exact ⟨(([] : List Int)), (0), (pF), H', ⟨Nat.le_refl _⟩, ⟨pN⟩, ⟨qB HB⟩⟩
   case round =>
    clear H'
    try clear c8
    obtain ⟨x9_2, x26_2, rfl, HA, HK2, zb, HB⟩ := hrel
    cases gk with
    | zero => exact absurd HA.out (by simp [gradineref19_With.l0])
    | succ k2 =>
     have H := HA.out
     clear HA
     simp only [gradineref19_With.l0] at H
     by_cases c9 : x26_2 < (l0.length : Int)
     rotate_left
     ·rw [if_neg c9] at H
      have c9b0 : decide (x26_2 < (l0.length : Int)) = false := decide_eq_false c9
      clear c9
      replace H := Option.bind_eq_some_iff.mp H
      obtain ⟨zc, zi, H⟩ := H
      try dsimp only at H
      have A17 := aM zi
      clear zi
      by_cases c18 : zc = 0
      rotate_left
      ·rw [if_neg c18] at H
       have c18b0 : (zc == 0) = false := beq_eq_false_iff_ne.mpr c18
       have c18b1 : (zc != 0) = true := bne_iff_ne.mpr c18
       simp only [Option.some.injEq, Prod.mk.injEq] at H
       obtain ⟨rfl, rfl⟩ := H
       obtain ⟨Ao20, co20, eo20⟩ := Kd.R_slice zb.out
       subst eo20
       go_wp2_with (first | ((with_reducible refine gate_callee (f := 14) rfl ?_); refine goesL_ (some 45) rfl rfl Try.func14 (by kernel_rfl) rfl #[.slice Ao20 x9_2.length co20] rfl pA ?_; (with_reducible refine (gradineref19_Check.calls k2 _ _ x9_2 zc _ ?s1 ?s2 A17.out).mono ?_); (case s1 => exact sR zb); (case s2 => exact sL zb); rintro e w' ⟨rfl, ⟨nd, rfl⟩⟩; refine ⟨_, rfl, ?_⟩))
       go_ret2
       exact ⟨_, pE, pN, qB HB⟩
      rw [if_pos c18] at H
      have c18b0 : (zc == 0) = true := beq_iff_eq.mpr c18
      have c18b1 : (zc != 0) = false := bne_eq_false_iff_eq.mpr c18
      clear c18
      simp only [Option.some.injEq, Prod.mk.injEq] at H
      obtain ⟨rfl, rfl⟩ := H
      obtain ⟨Ao19, co19, eo19⟩ := Kd.R_slice zb.out
      subst eo19
      go_wp2_with (first | ((with_reducible refine gate_callee (f := 14) rfl ?_); refine goesL_ (some 45) rfl rfl Try.func14 (by kernel_rfl) rfl #[.slice Ao19 x9_2.length co19] rfl pA ?_; (with_reducible refine (gradineref19_Check.calls k2 _ _ x9_2 zc _ ?s1 ?s2 A17.out).mono ?_); (case s1 => exact sR zb); (case s2 => exact sL zb); rintro e w' ⟨rfl, ⟨nd, rfl⟩⟩; refine ⟨_, rfl, ?_⟩))
      go_ret2
      exact ⟨_, pE, pR zb.out, qB HB⟩
     rw [if_pos c9] at H
     have c9b0 : decide (x26_2 < (l0.length : Int)) = true := decide_eq_true c9
     clear c9
     by_cases c10 : x26_2 = a1
     ·rw [if_pos c10] at H
      have c10b0 : (x26_2 == a1) = true := beq_iff_eq.mpr c10
      have c10b1 : (x26_2 != a1) = false := bne_eq_false_iff_eq.mpr c10
      clear c10
      by_cases c11 : x9_2.length < 17592186044416
      rotate_left
      ·rw [if_neg c11] at H
       exact absurd H (by simp)
      rw [if_pos c11] at H
      have LMc11 := aM c11
      clear c11
      obtain ⟨zj, ze⟩ : ∃ y_ : List Int, y_ = (x9_2 ++ [a2]) := ⟨_, rfl⟩
      replace H : (gradineref19_With.l0 k2 l0 a1 a2 zj (l0.length : Int) (wrap64 (x26_2 + 1))) = some (r1, r2) := pH ze H
      have Ny488 := aM ze
      clear ze
      have H' := aM H
      clear H
      go_wp2_with (first | ((with_reducible refine gate_builtin (b := .append) (xs := #[.tmp 32, .tmp 34]) rfl ?_); (try (refine gate_guard (by rfl) ?_; dsimp only)); at_builtin; refine Kd.R_append (Kd.int .i64) (w0 := w) w.heap.size rfl (.tmp 32) (.tmp 34) 22 3 (.int .i64 0) 8 rfl Try.underlying22 info3 rfl (by decide) (by omega) u9 x9_2 a2 [.int .i64 a2] (fun _ => True) (fun _ => False) rfl rfl ?aP (fun _ hk => hk.elim) ?aF ?aO ?aB ?aS ?aL ?_; (case aP => exact rfl); (case aB => exact (qB HB)); (case aF => exact (fun _ _ => trivial)); (case aO => exact (pR zb.out)); (case aS => exact (below_size (qB HB))); (case aL => have := LMc11.out; omega); intro v489 w12 ho hb hg hat; rw [← Ny488.out] at ho; replace HB := aM (hb); have HO490 := aM (ho); clear zb; clear ho hb hg hat))
      go_roundg k2
      case measure => have := HJ5.out; have := HK2.out; omega
      case rel => exact ⟨(zj), (wrap64 (x26_2 + 1)), (pF), H', ⟨by have := HJ5.out; have := HK2.out; omega⟩, ⟨pR HO490.out⟩, ⟨qB HB⟩⟩
     rw [if_neg c10] at H
     have c10b0 : (x26_2 == a1) = false := beq_eq_false_iff_ne.mpr c10
     have c10b1 : (x26_2 != a1) = true := bne_iff_ne.mpr c10
     by_cases c13 : 0 ≤ x26_2
     rotate_left
     ·rw [if_neg c13] at H
      exact absurd H (by simp)
     rw [if_pos c13] at H
     have c13b0 : decide (0 ≤ x26_2) = true := decide_eq_true c13
     clear c13
     by_cases c14 : x26_2 < (l0.length : Int)
     rotate_left
     ·rw [if_neg c14] at H
      exact absurd H (by simp)
     rw [if_pos c14] at H
     have c14b0 : decide (x26_2 < (l0.length : Int)) = true := decide_eq_true c14
     clear c14
     by_cases c15 : x9_2.length < 17592186044416
     rotate_left
     ·rw [if_neg c15] at H
      exact absurd H (by simp)
     rw [if_pos c15] at H
     have LMc15 := aM c15
     clear c15
     obtain ⟨zk, zf⟩ : ∃ y_ : List Int, y_ = (x9_2 ++ [rd l0 x26_2]) := ⟨_, rfl⟩
     replace H : (gradineref19_With.l0 k2 l0 a1 a2 zk (l0.length : Int) (wrap64 (x26_2 + 1))) = some (r1, r2) := pH zf H
     have Ny492 := aM zf
     clear zf
     have H' := aM H
     clear H
     have p491 : 0 ≤ (x26_2 : Int) := of_decide_eq_true pD
     have q491 : x26_2 < (l0.length : Int) := of_decide_eq_true pD
     obtain ⟨ad491, e491, hx491_0⟩ := Kd.at_int HR0.out x26_2 p491 q491
     cases e491
     replace hx491_0 := (HB.out.cell (World.block_lt_of_cell? w _ hx491_0)).trans hx491_0
     replace p491 := eq_true p491
     replace q491 := eq_true q491
     go_wp2_with (first | ((with_reducible refine gate_builtin (b := .append) (xs := #[.tmp 36, .tmp 41]) rfl ?_); (try (refine gate_guard (by rfl) ?_; dsimp only)); at_builtin; refine Kd.R_append (Kd.int .i64) (w0 := w) w.heap.size rfl (.tmp 36) (.tmp 41) 22 3 (.int .i64 0) 8 rfl Try.underlying22 info3 rfl (by decide) (by omega) u9 x9_2 (rd l0 x26_2) [.int .i64 (rd l0 x26_2)] (fun _ => True) (fun _ => False) rfl rfl ?aP (fun _ hk => hk.elim) ?aF ?aO ?aB ?aS ?aL ?_; (case aP => exact rfl); (case aB => exact (qB HB)); (case aF => exact (fun _ _ => trivial)); (case aO => exact (pR zb.out)); (case aS => exact (below_size (qB HB))); (case aL => have := LMc15.out; omega); intro v493 w16 ho hb hg hat; rw [← Ny492.out] at ho; replace HB := aM (hb); have HO494 := aM (ho); clear zb; clear ho hb hg hat))
     go_roundg k2
     case measure => have := HJ5.out; have := HK2.out; omega
     case rel => exact ⟨(zk), (wrap64 (x26_2 + 1)), (pF), H', ⟨by have := HJ5.out; have := HK2.out; omega⟩, ⟨pR HO494.out⟩, ⟨qB HB⟩⟩
end Go.Proofs.Yticcamciaohepaa.Q
