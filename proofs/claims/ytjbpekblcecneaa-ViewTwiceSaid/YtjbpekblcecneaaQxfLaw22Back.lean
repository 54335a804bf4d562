-- Written by this session's program wip/gprint.py, which drives the kit's print.py and puts the session's own texts in for some functions.
import Derived.Test.YtjbpekblcecneaaQx0
namespace Go.Proofs.Ytjbpekblcecneaa.Q
open Go.RowKit Go.Proofs.YtjbpekblcecneaaW.PrintWords Go.Proofs.YtjbpekblcecneaaW.PrintLast Go.Proofs.YtjbpekblcecneaaW.PrintMore
attribute [local go_sem] max2_int min2_int max_two min_two max_three min_three max_four min_four   -- for this text's walks alone
set_option linter.unusedVariables false
set_option linter.unusedSimpArgs false

/-! ### gradinelaw22_back: function 22 -/
def gradinelaw22_back.l0 : Nat → List Int → List Int → Int → Int → Option (List Int)
 | 0, _, _, _, _ => none
 | k + 1, x0, x3, x9, x10 => if x10 < x9 then (if 0 ≤ x10 then (if x10 < (x0.length : Int) then (if (rd x0 x10) ≥ 0 then (if (rd x0 x10) < (x0.length : Int) then (if 0 ≤ (rd x0 x10) then (if (rd x0 x10) < (x3.length : Int) then (gradinelaw22_back.l0 k x0 (x3.set ((rd x0 x10) : Int).toNat x10) x9 (wrap64 (x10 + 1))) else (none)) else (none)) else (gradinelaw22_back.l0 k x0 x3 x9 (wrap64 (x10 + 1)))) else (gradinelaw22_back.l0 k x0 x3 x9 (wrap64 (x10 + 1)))) else (none)) else (none)) else (some x3)
def gradinelaw22_back.f (k : Nat) (l0 : List Int) : Option (List Int) := if 0 ≤ (l0.length : Int) then (if ((l0.length : Int) : Int).toNat ≤ 35184372088832 then (gradinelaw22_back.l0 k l0 (List.replicate ((l0.length : Int) : Int).toNat 0) (l0.length : Int) 0) else (none)) else (none)
set_option maxHeartbeats 8000000 in
set_option maxRecDepth 100000 in
theorem gradinelaw22_back.calls (k : Nat) (A0 : Option Addr) (c0 : Nat) (l0 : List Int) (r : List Int) (w : World) (hr0 : Kd.C (Kd.int .i64) w A0 l0.length l0) (hc0 : l0.length ≤ c0) (h : gradinelaw22_back.f k l0 = some r) :
  Calls Try.prog 22 #[.slice A0 l0.length c0] w fun e w' => ∃ v0_ : Value, e = .returned (v0_) ∧ Kd.R (Kd.int .i64) 3 w' w.heap.size (fun _ => True) v0_ r ∧ Below w.heap.size w w' := by
 have HR0 := Aside0.mk hr0
 have HC0 := Aside0.mk hc0
 clear hr0 hc0
 have HB := Aside0.mk (Below.refl w.heap.size w)
 have H : (if 0 ≤ (l0.length : Int) then (if ((l0.length : Int) : Int).toNat ≤ 35184372088832 then (gradinelaw22_back.l0 k l0 (List.replicate ((l0.length : Int) : Int).toNat 0) (l0.length : Int) 0) else (none)) else (none)) = some r := h
 clear h
 by_cases c2 : 0 ≤ (l0.length : Int)
 ·rw [if_pos c2] at H
  have c2b0 := eq_true c2
  have c2b1 : decide (0 ≤ (l0.length : Int)) = true := decide_eq_true c2
  clear c2
  by_cases c3 : ((l0.length : Int) : Int).toNat ≤ 35184372088832
  ·rw [if_pos c3] at H
   have c3b0 := eq_true c3
   have c3b1 : decide (((l0.length : Int) : Int).toNat ≤ 35184372088832) = true := decide_eq_true c3
   clear c3
   obtain ⟨y346, hy346⟩ : ∃ y_ : List Int, y_ = (List.replicate ((l0.length : Int) : Int).toNat 0) := ⟨_, rfl⟩
   replace H : (gradinelaw22_back.l0 k l0 y346 (l0.length : Int) 0) = some r := by first | (rw [hy346]; with_reducible exact H) | (have H2_ := (Option.bind_some _ _).symm.trans H; rw [hy346]; with_reducible exact H2_) | (have H2_ := (Option.bind_some _ _).symm.trans H; with_reducible exact H2_) | with_reducible exact H | (rw [hy346]; exact H) | exact H
   have Ny346 := Aside0.mk hy346
   clear hy346
   have H' := Aside0.mk H
   clear H
   go_enter Try.func22, Try.ntmps22
   go_wp2_with (first | ((with_reducible refine gate_dst (N := 7) rfl ?_); (try (refine gate_guard (by rfl) ?_; dsimp only)); refine Kd.R_make (Kd.int .i64) _ 3 rfl (N := 7) rfl 22 _ _ rfl (l0.length : Int) rfl rfl Try.underlying22 (.int .i64 0) 8 info3 rfl (by decide) (by omega) 0 (ok := fun _ => True) (okp := fun _ => True) rfl (fun _ hk => hk) trivial (of_decide_eq_true pD) (Nat.le_trans (Nat.mul_le_mul_right _ (of_decide_eq_true pD : (l0.length : Int).toNat ≤ 35184372088832)) (by omega)) (Below.refl _ _) (Nat.le_refl _) ?_; intro v347 w4 ho5 hb hg_ hnew_; clear hg_ hnew_; (first | rw [← Ny346.out] at ho5 | (simp only [Int.reduceToNat] at ho5; rw [← Ny346.out] at ho5)); have n0_ := Aside0.mk (Kd.R_lower ho5 (below_size (pB HB.out))); have n1_ := Aside0.mk (below_step (pB HB.out) hb); clear HB; have HO348 := n0_; have HB := n1_; clear n0_ n1_; clear hb ho5))
   go_loopg [10] k (fun kq v10 w' => ∃ (x3_1 : List Int) (x10_1 : Int), v10 = .int .i64 x10_1 ∧ Aside0 (gradinelaw22_back.l0 kq l0 x3_1 (l0.length : Int) x10_1 = some r) ∧ Aside0 (kq ≤ k) ∧ Aside0 (Kd.R (Kd.int .i64) 3 w' w.heap.size (fun _ => True) v347 x3_1) ∧ Aside0 (Below w.heap.size w w'))
   case atStart => exact ⟨(y346), (0), (pF), H', ⟨Nat.le_refl _⟩, ⟨pR HO348.out⟩, ⟨pB HB.out⟩⟩
   case round =>
    clear H'
    try clear c2
    try clear c2b0
    try clear c2b1
    try clear p2
    try clear c3
    try clear c3b0
    try clear c3b1
    obtain ⟨x3_1, x10_1, rfl, HA, HK1, HO_3, HB⟩ := hrel
    cases gk with
    | zero => exact absurd HA.out (by simp [gradinelaw22_back.l0])
    | succ k1 =>
     have H := HA.out
     clear HA
     simp only [gradinelaw22_back.l0] at H
     by_cases c6 : x10_1 < (l0.length : Int)
     ·rw [if_pos c6] at H
      have c6b0 : decide (x10_1 < (l0.length : Int)) = true := decide_eq_true c6
      clear c6
      by_cases c7 : 0 ≤ x10_1
      ·rw [if_pos c7] at H
       have c7b0 : decide (0 ≤ x10_1) = true := decide_eq_true c7
       clear c7
       by_cases c8 : x10_1 < (l0.length : Int)
       ·rw [if_pos c8] at H
        have c8b0 : decide (x10_1 < (l0.length : Int)) = true := decide_eq_true c8
        clear c8
        by_cases c9 : (rd l0 x10_1) ≥ 0
        ·rw [if_pos c9] at H
         have c9b0 : decide (0 ≤ (rd l0 x10_1)) = true := decide_eq_true c9
         clear c9
         by_cases c10 : (rd l0 x10_1) < (l0.length : Int)
         ·rw [if_pos c10] at H
          have c10b0 : decide ((rd l0 x10_1) < (l0.length : Int)) = true := decide_eq_true c10
          clear c10
          by_cases c11 : 0 ≤ (rd l0 x10_1)
          ·rw [if_pos c11] at H
           have c11b0 : decide (0 ≤ (rd l0 x10_1)) = true := decide_eq_true c11
           clear c11
           by_cases c12 : (rd l0 x10_1) < (x3_1.length : Int)
           ·rw [if_pos c12] at H
            have c12b0 : decide ((rd l0 x10_1) < (x3_1.length : Int)) = true := decide_eq_true c12
            clear c12
            obtain ⟨y352, hy352⟩ : ∃ y_ : List Int, y_ = (x3_1.set ((rd l0 x10_1) : Int).toNat x10_1) := ⟨_, rfl⟩
            replace H : (gradinelaw22_back.l0 k1 l0 y352 (l0.length : Int) (wrap64 (x10_1 + 1))) = some r := by first | (rw [hy352]; with_reducible exact H) | (have H2_ := (Option.bind_some _ _).symm.trans H; rw [hy352]; with_reducible exact H2_) | (have H2_ := (Option.bind_some _ _).symm.trans H; with_reducible exact H2_) | with_reducible exact H | (rw [hy352]; exact H) | exact H
            have Ny352 := Aside0.mk hy352
            clear hy352
            have H' := Aside0.mk H
            clear H
            have p349 : 0 ≤ (x10_1 : Int) := of_decide_eq_true pD
            have q349 : x10_1 < (l0.length : Int) := of_decide_eq_true pD
            obtain ⟨ad349, e349, hx349_0⟩ := Kd.at_int HR0.out x10_1 p349 q349
            cases e349
            replace hx349_0 := (HB.out.cell (World.block_lt_of_cell? w _ hx349_0)).trans hx349_0
            replace p349 := eq_true p349
            replace q349 := eq_true q349
            have p350 : 0 ≤ (x10_1 : Int) := of_decide_eq_true pD
            have q350 : x10_1 < (l0.length : Int) := of_decide_eq_true pD
            obtain ⟨ad350, e350, hx350_0⟩ := Kd.at_int HR0.out x10_1 p350 q350
            obtain rfl : ad349 = ad350 := (by injection e350)
            replace hx350_0 := (HB.out.cell (World.block_lt_of_cell? w _ hx350_0)).trans hx350_0
            replace p350 := eq_true p350
            replace q350 := eq_true q350
            have p351 : 0 ≤ (x10_1 : Int) := of_decide_eq_true pD
            have q351 : x10_1 < (l0.length : Int) := of_decide_eq_true pD
            obtain ⟨ad351, e351, hx351_0⟩ := Kd.at_int HR0.out x10_1 p351 q351
            obtain rfl : ad349 = ad351 := (by injection e351)
            replace hx351_0 := (HB.out.cell (World.block_lt_of_cell? w _ hx351_0)).trans hx351_0
            replace p351 := eq_true p351
            replace q351 := eq_true q351
            have p13 : 0 ≤ ((rd l0 x10_1) : Int) := of_decide_eq_true pD
            have q13 : ((rd l0 x10_1) : Int) < ((x3_1.length : Int) : Int) := of_decide_eq_true pD
            obtain ⟨go13, co13, eo13, gb13, gl13, cl13, HG13⟩ := Kd.R_form HO_3.out (by omega)
            (first | cases eo13 | (injection eo13 with ea_ en_ ec_; (first | subst ea_ | (injection ea_ with ea_; subst ea_)); subst ec_; clear en_))
            have GB13 := Aside0.mk gb13
            have GG13 := Aside0.mk HG13
            clear gb13 gl13 HG13
            obtain ⟨hx13_0, hf13_0⟩ := Kd.R_celln 0 HO_3.out ((rd l0 x10_1) : Int) p13 q13
            replace p13 := eq_true p13
            replace q13 := eq_true q13
            have HP14 := Kd.R_putg HO_3.out ((rd l0 x10_1) : Int) x10_1
            go_wp2_with (first | ((with_reducible refine gate_store (t := 3) (p := 33) rfl ?_); refine store_event (t := 3) (p := 33) (v := ?vo_w15) (w1 := (wr.setCell ⟨go13, ((rd l0 x10_1) : Int).toNat, none⟩ (.int .i64 x10_1))) ?hg ?ho ?hn ?hr ?_; (case ho => rfl); (case hg => rfl); (case hn => rfl); (case hr => first | (go_simp; done) | (go_simp; rfl)); intro w15 hw; have hg : wr.grownBy w15 (some go13) := (by rw [hw]; exact HP14.2); have hp_ : Kd.R (Kd.int .i64) 3 w15 w.heap.size (fun _ => True) (.slice (some ⟨go13, 0, none⟩) x3_1.length co13) y352 := (by rw [hw, Ny352.out]; exact HP14.1); clear HP14; have n0_ := Aside0.mk (hp_); have n1_ := Aside0.mk ((by rw [hw]; exact below_set (HB.out) GB13.out : Below w.heap.size w w15)); clear HO_3; clear HB; have HO_3 := n0_; have HB := n1_; clear n0_ n1_; clear hg hw hp_))
            go_roundg k1
            case measure => have := HK1.out; omega
            case rel => exact ⟨(y352), (wrap64 (x10_1 + 1)), (pF), H', ⟨by have := HK1.out; omega⟩, ⟨pR HO_3.out⟩, ⟨pB HB.out⟩⟩
           ·rw [if_neg c12] at H
            exact absurd H (by simp)
          ·rw [if_neg c11] at H
           exact absurd H (by simp)
         ·rw [if_neg c10] at H
          have c10b0 : decide ((rd l0 x10_1) < (l0.length : Int)) = false := decide_eq_false c10
          clear c10
          have H' := Aside0.mk H
          clear H
          have p349 : 0 ≤ (x10_1 : Int) := of_decide_eq_true pD
          have q349 : x10_1 < (l0.length : Int) := of_decide_eq_true pD
          obtain ⟨ad349, e349, hx349_0⟩ := Kd.at_int HR0.out x10_1 p349 q349
          cases e349
          replace hx349_0 := (HB.out.cell (World.block_lt_of_cell? w _ hx349_0)).trans hx349_0
          replace p349 := eq_true p349
          replace q349 := eq_true q349
          have p350 : 0 ≤ (x10_1 : Int) := of_decide_eq_true pD
          have q350 : x10_1 < (l0.length : Int) := of_decide_eq_true pD
          obtain ⟨ad350, e350, hx350_0⟩ := Kd.at_int HR0.out x10_1 p350 q350
          obtain rfl : ad349 = ad350 := (by injection e350)
          replace hx350_0 := (HB.out.cell (World.block_lt_of_cell? w _ hx350_0)).trans hx350_0
          replace p350 := eq_true p350
          replace q350 := eq_true q350
          go_wp2
          go_roundg k1
          case measure => have := HK1.out; omega
          case rel => exact ⟨(x3_1), (wrap64 (x10_1 + 1)), (pF), H', ⟨by have := HK1.out; omega⟩, ⟨pR HO_3.out⟩, ⟨pB HB.out⟩⟩
        ·rw [if_neg c9] at H
         have c9b0 : decide (0 ≤ (rd l0 x10_1)) = false := decide_eq_false c9
         clear c9
         have H' := Aside0.mk H
         clear H
         have p349 : 0 ≤ (x10_1 : Int) := of_decide_eq_true pD
         have q349 : x10_1 < (l0.length : Int) := of_decide_eq_true pD
         obtain ⟨ad349, e349, hx349_0⟩ := Kd.at_int HR0.out x10_1 p349 q349
         cases e349
         replace hx349_0 := (HB.out.cell (World.block_lt_of_cell? w _ hx349_0)).trans hx349_0
         replace p349 := eq_true p349
         replace q349 := eq_true q349
         go_wp2
         go_roundg k1
         case measure => have := HK1.out; omega
         case rel => exact ⟨(x3_1), (wrap64 (x10_1 + 1)), (pF), H', ⟨by have := HK1.out; omega⟩, ⟨pR HO_3.out⟩, ⟨pB HB.out⟩⟩
       ·rw [if_neg c8] at H
        exact absurd H (by simp)
      ·rw [if_neg c7] at H
       exact absurd H (by simp)
     ·rw [if_neg c6] at H
      have c6b0 : decide (x10_1 < (l0.length : Int)) = false := decide_eq_false c6
      clear c6
      obtain rfl := Option.some.inj H
      go_wp2
      go_ret
      exact ⟨_, pE, pR HO_3.out, pB HB.out⟩
  ·rw [if_neg c3] at H
   exact absurd H (by simp)
 ·rw [if_neg c2] at H
  exact absurd H (by simp)

end Go.Proofs.Ytjbpekblcecneaa.Q
