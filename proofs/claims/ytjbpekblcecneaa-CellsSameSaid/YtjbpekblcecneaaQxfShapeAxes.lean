-- By wip/gprint.py (this session's), out of the kit's print.py.
import Derived.Test.YtjbpekblcecneaaQx0
namespace Go.Proofs.Ytjbpekblcecneaa.Q
open Go.RowKit Go.Proofs.YtjbpekblcecneaaW.PrintWords Go.Proofs.YtjbpekblcecneaaW.PrintLast Go.Proofs.YtjbpekblcecneaaW.PrintMore
attribute [local go_sem] max2_int min2_int max_two min_two max_three min_three max_four min_four   -- for this text's walks alone
set_option linter.unusedVariables false
set_option linter.unusedSimpArgs false

/-! ### shape_Axes: function 57 -/
mutual
def shape_Axes.j0 : Nat → Int → List Int → Bool → Option (List Bool × Int)
 | 0, _, _, _ => none
 | k + 1, x0, x1, x15 => if x15 = true then (some (([] : List Bool), 9)) else (if 0 ≤ x0 then (if (x0 : Int).toNat ≤ 281474976710656 then (shape_Axes.l0 k x0 x1 (List.replicate (x0 : Int).toNat false) x1 (x1.length : Int) 0) else (none)) else (none))
def shape_Axes.l0 : Nat → Int → List Int → List Bool → List Int → Int → Int → Option (List Bool × Int)
 | 0, _, _, _, _, _, _ => none
 | k + 1, x0, x1, x6, x18, x19, x20 => if x20 < x19 then (if 0 ≤ x20 then (if x20 < (x18.length : Int) then (if (rd x18 x20) < 0 then (some (([] : List Bool), 10)) else (if (rd x18 x20) ≥ x0 then (some (([] : List Bool), 10)) else (if 0 ≤ (rd x18 x20) then (if (rd x18 x20) < (x6.length : Int) then (if rdOf false x6 (rd x18 x20) = true then (some (([] : List Bool), 10)) else (shape_Axes.l0 k x0 x1 (x6.set ((rd x18 x20) : Int).toNat true) x18 x19 (wrap64 (x20 + 1)))) else (none)) else (none)))) else (none)) else (none)) else (if (x1.length : Int) = 0 then (shape_Axes.l1 k x6 (x6.length : Int) 0) else (some (x6, 0)))
def shape_Axes.l1 : Nat → List Bool → Int → Int → Option (List Bool × Int)
 | 0, _, _, _ => none
 | k + 1, x6, x45, x46 => if x46 < x45 then (if 0 ≤ x46 then (if x46 < (x6.length : Int) then (shape_Axes.l1 k (x6.set (x46 : Int).toNat true) x45 (wrap64 (x46 + 1))) else (none)) else (none)) else (some (x6, 0))
end
def shape_Axes.f (k : Nat) (a0 : Int) (l1 : List Int) : Option (List Bool × Int) := if a0 < 0 then (shape_Axes.j0 k a0 l1 true) else (shape_Axes.j0 k a0 l1 (decide (a0 > 6)))
set_option maxHeartbeats 8000000 in
set_option maxRecDepth 100000 in
theorem shape_Axes.calls (k : Nat) (a0 : Int) (A1 : Option Addr) (c1 : Nat) (l1 : List Int) (r1 : List Bool) (r2 : Int) (w : World) (hr1 : Kd.C (Kd.int .i64) w A1 l1.length l1) (hc1 : l1.length ≤ c1) (h : shape_Axes.f k a0 l1 = some (r1, r2)) :
  Calls Try.prog 57 #[.int .i64 a0, .slice A1 l1.length c1] w fun e w' => ∃ v0_ : Value, e = .returned (.tuple #[v0_, .int .i64 r2]) ∧ Kd.R Kd.bool 4 w' w.heap.size (fun _ => True) v0_ r1 ∧ Below w.heap.size w w' := by
 have HR1 := aM hr1
 have HC1 := aM hc1
 clear hr1 hc1
 have HB := aM (Below.refl w.heap.size w)
 have H : (if a0 < 0 then (shape_Axes.j0 k a0 l1 true) else (shape_Axes.j0 k a0 l1 (decide (a0 > 6)))) = some (r1, r2) := h
 clear h
 have HC3 := aM H
 clear H
 go_enter Try.func57, Try.ntmps57
 go_upto_region 1 with (fail)
 go_cut [15] (fun v15 wc => ∃ (kq : Nat) (x15_2 : Bool), v15 = .bool x15_2 ∧ Aside0 (shape_Axes.j0 kq a0 l1 x15_2 = some (r1, r2)) ∧ Aside0 (kq ≤ k) ∧ Aside0 (Below w.heap.size w wc))
 case first =>
  have H := HC3.out
  clear HC3
  by_cases c4 : a0 < 0
  ·rw [if_pos c4] at H
   have zb : decide (a0 < 0) = true := decide_eq_true c4
   clear c4
   (first | rw [zb] | (simp only [i64_w, i32_w]; rw [zb]) | skip)
   have H' := aM H
   clear H
   go_wp2
   go_meet
   case rel => exact ⟨_, (true), (pF), H', ⟨by first | omega | exact Nat.le_refl _⟩, ⟨qB HB⟩⟩
  rw [if_neg c4] at H
  have zb : decide (a0 < 0) = false := decide_eq_false c4
  clear c4
  (first | rw [zb] | (simp only [i64_w, i32_w]; rw [zb]) | skip)
  have H' := aM H
  clear H
  go_wp2
  go_meet
  case rel => exact ⟨_, (decide (a0 > 6)), (pF), H', ⟨by first | omega | exact Nat.le_refl _⟩, ⟨qB HB⟩⟩
 case rest =>
  clear HC3
  try clear c1
  obtain ⟨kq, x15_2, rfl, HA, HJ2, HB⟩ := hcut
  cases kq with
  | zero => exact absurd HA.out (by simp [shape_Axes.j0])
  | succ kj2 =>
   have H := HA.out
   clear HA
   simp only [shape_Axes.j0] at H
   by_cases c5 : x15_2 = true
   ·subst c5
    rw [if_pos rfl] at H
    simp only [Option.some.injEq, Prod.mk.injEq] at H
    obtain ⟨rfl, rfl⟩ := H
    go_wp2
    go_ret2
    exact ⟨_, pE, pN, qB HB⟩
   replace c5 := Bool.eq_false_iff.mpr c5
   subst c5
   rw [if_neg (show ¬ (false = true) by decide)] at H
   by_cases c6 : 0 ≤ a0
   rotate_left
   ·rw [if_neg c6] at H
    exact absurd H (by simp)

   rw [if_pos c6] at H
   have c6b0 := eq_true c6
   have c6b1 : decide (0 ≤ a0) = true := decide_eq_true c6
   clear c6
   by_cases c7 : (a0 : Int).toNat ≤ 281474976710656
   rotate_left
   ·rw [if_neg c7] at H
    exact absurd H (by simp)
   rw [if_pos c7] at H
   have c7b0 := eq_true c7
   have c7b1 : decide ((a0 : Int).toNat ≤ 281474976710656) = true := decide_eq_true c7
   clear c7
   obtain ⟨zm, zc⟩ : ∃ y_ : List Bool, y_ = (List.replicate (a0 : Int).toNat false) := ⟨_, rfl⟩
   replace H : (shape_Axes.l0 kj2 a0 l1 zm l1 (l1.length : Int) 0) = some (r1, r2) := pH zc H
   have zg := aM zc
   clear zc
   have H' := aM H
   clear H
   go_wp2_with (first | ((with_reducible refine gate_dst (N := 17) rfl ?_); refine Kd.R_make Kd.bool _ 4 rfl (N := 17) rfl 75 _ _ rfl a0 rfl rfl Try.underlying75 (.bool false) 1 info4 rfl (by decide) (by omega) false (ok := fun _ => True) (okp := fun _ => True) rfl (fun _ hk => hk) trivial (of_decide_eq_true pD) (Nat.le_trans (Nat.mul_le_mul_right _ (of_decide_eq_true pD : a0.toNat ≤ 281474976710656)) (by omega)) (Below.refl _ _) (Nat.le_refl _) ?_; intro v142 w8 ho9 hb hg_ hnew_; clear hg_ hnew_; (first | rw [← zg.out] at ho9 | (simp only [Int.reduceToNat] at ho9; rw [← zg.out] at ho9)); have HO143 := aM (Kd.R_lower ho9 (below_size (qB HB))); replace HB := bS (qB HB) hb; clear hb ho9))
   go_loopg [20] kj2 (fun kq v20 w' => ∃ (x6_2 : List Bool) (x20_2 : Int), v20 = .int .i64 x20_2 ∧ Aside0 (shape_Axes.l0 kq a0 l1 x6_2 l1 (l1.length : Int) x20_2 = some (r1, r2)) ∧ Aside0 (kq ≤ kj2) ∧ Aside0 (Kd.R Kd.bool 4 w' w.heap.size (fun _ => True) v142 x6_2) ∧ Aside0 (Below w.heap.size w w'))
   case atStart => exact ⟨(zm), (0), (pF), H', ⟨Nat.le_refl _⟩, ⟨pR HO143.out⟩, ⟨qB HB⟩⟩
   case round =>
    clear H'
    try clear c5
    try clear c6b0
    try clear c6b1
    try clear c7b0
    try clear c7b1
    obtain ⟨x6_2, x20_2, rfl, HA, HK2, za, HB⟩ := hrel
    cases gk with
    | zero => exact absurd HA.out (by simp [shape_Axes.l0])
    | succ k2 =>
     have H := HA.out
     clear HA
     simp only [shape_Axes.l0] at H
     by_cases c10 : x20_2 < (l1.length : Int)
     ·rw [if_pos c10] at H
      have zh : decide (x20_2 < (l1.length : Int)) = true := decide_eq_true c10
      clear c10
      by_cases c11 : 0 ≤ x20_2
      rotate_left
      ·rw [if_neg c11] at H
       exact absurd H (by simp)
      rw [if_pos c11] at H
      have c11b0 : decide (0 ≤ x20_2) = true := decide_eq_true c11
      clear c11
      by_cases c12 : x20_2 < (l1.length : Int)
      rotate_left
      ·rw [if_neg c12] at H
       exact absurd H (by simp)
      rw [if_pos c12] at H
      have c12b0 : decide (x20_2 < (l1.length : Int)) = true := decide_eq_true c12
      clear c12
      by_cases c13 : (rd l1 x20_2) < 0
      ·rw [if_pos c13] at H
       have c13b0 : decide ((rd l1 x20_2) < 0) = true := decide_eq_true c13
       clear c13
       simp only [Option.some.injEq, Prod.mk.injEq] at H
       obtain ⟨rfl, rfl⟩ := H
       have p144 : 0 ≤ (x20_2 : Int) := of_decide_eq_true pD
       have q144 : x20_2 < (l1.length : Int) := of_decide_eq_true pD
       obtain ⟨ad144, e144, hx144_0⟩ := Kd.at_int HR1.out x20_2 p144 q144
       cases e144
       replace hx144_0 := (HB.out.cell (World.block_lt_of_cell? w _ hx144_0)).trans hx144_0
       replace p144 := eq_true p144
       replace q144 := eq_true q144
       go_wp2
       go_ret2
       exact ⟨_, pE, pN, qB HB⟩
      rw [if_neg c13] at H
      have c13b0 : decide ((rd l1 x20_2) < 0) = false := decide_eq_false c13
      clear c13
      by_cases c14 : (rd l1 x20_2) ≥ a0
      ·rw [if_pos c14] at H
       have c14b0 : decide (a0 ≤ (rd l1 x20_2)) = true := decide_eq_true c14
       clear c14
       simp only [Option.some.injEq, Prod.mk.injEq] at H
       obtain ⟨rfl, rfl⟩ := H
       have p144 : 0 ≤ (x20_2 : Int) := of_decide_eq_true pD
       have q144 : x20_2 < (l1.length : Int) := of_decide_eq_true pD
       obtain ⟨ad144, e144, hx144_0⟩ := Kd.at_int HR1.out x20_2 p144 q144
       cases e144
       replace hx144_0 := (HB.out.cell (World.block_lt_of_cell? w _ hx144_0)).trans hx144_0
       replace p144 := eq_true p144
       replace q144 := eq_true q144
       go_wp2
       go_ret2
       exact ⟨_, pE, pN, qB HB⟩
      rw [if_neg c14] at H
      have c14b0 : decide (a0 ≤ (rd l1 x20_2)) = false := decide_eq_false c14
      clear c14
      by_cases c15 : 0 ≤ (rd l1 x20_2)
      rotate_left
      ·rw [if_neg c15] at H
       exact absurd H (by simp)
      rw [if_pos c15] at H
      have c15b0 : decide (0 ≤ (rd l1 x20_2)) = true := decide_eq_true c15
      clear c15
      by_cases c16 : (rd l1 x20_2) < (x6_2.length : Int)
      rotate_left
      ·rw [if_neg c16] at H
       exact absurd H (by simp)
      rw [if_pos c16] at H
      have c16b0 : decide ((rd l1 x20_2) < (x6_2.length : Int)) = true := decide_eq_true c16
      clear c16
      obtain ⟨bq17, hbq17⟩ : ∃ b_ : Bool, b_ = (rdOf false x6_2 (rd l1 x20_2)) := ⟨_, rfl⟩
      replace H : (if bq17 = true then (some (([] : List Bool), 10)) else (shape_Axes.l0 k2 a0 l1 (x6_2.set ((rd l1 x20_2) : Int).toNat true) l1 (l1.length : Int) (wrap64 (x20_2 + 1)))) = some (r1, r2) := by rw [← hbq17] at H; exact H
      have Nbq17 := aM hbq17
      clear hbq17
      by_cases c18 : bq17 = true
      ·subst c18
       rw [if_pos rfl] at H
       simp only [Option.some.injEq, Prod.mk.injEq] at H
       obtain ⟨rfl, rfl⟩ := H
       have p144 : 0 ≤ (x20_2 : Int) := of_decide_eq_true pD
       have q144 : x20_2 < (l1.length : Int) := of_decide_eq_true pD
       obtain ⟨ad144, e144, hx144_0⟩ := Kd.at_int HR1.out x20_2 p144 q144
       cases e144
       replace hx144_0 := (HB.out.cell (World.block_lt_of_cell? w _ hx144_0)).trans hx144_0
       replace p144 := eq_true p144
       replace q144 := eq_true q144
       obtain ⟨Ao19, co19, eo19⟩ := Kd.R_slice za.out
       subst eo19
       have p145 : 0 ≤ ((rd l1 x20_2) : Int) := of_decide_eq_true pD
       have q145 : (rd l1 x20_2) < (x6_2.length : Int) := of_decide_eq_true pD
       obtain ⟨ad145, e145, hx145_0⟩ := Kd.at_bool (Kd.R_reads' za.out).2.2 (rd l1 x20_2) p145 q145
       (try rw [← Nbq17.out] at hx145_0)
       cases e145
       replace p145 := eq_true p145
       replace q145 := eq_true q145
       go_wp2
       go_ret2
       exact ⟨_, pE, pN, qB HB⟩
      replace c18 := Bool.eq_false_iff.mpr c18
      subst c18
      rw [if_neg (show ¬ (false = true) by decide)] at H
      obtain ⟨zk, zd⟩ : ∃ y_ : List Bool, y_ = (x6_2.set ((rd l1 x20_2) : Int).toNat true) := ⟨_, rfl⟩
      replace H : (shape_Axes.l0 k2 a0 l1 zk l1 (l1.length : Int) (wrap64 (x20_2 + 1))) = some (r1, r2) := pH zd H
      have Ny146 := aM zd
      clear zd
      have H' := aM H
      clear H
      have p144 : 0 ≤ (x20_2 : Int) := of_decide_eq_true pD
      have q144 : x20_2 < (l1.length : Int) := of_decide_eq_true pD
      obtain ⟨ad144, e144, hx144_0⟩ := Kd.at_int HR1.out x20_2 p144 q144
      cases e144
      replace hx144_0 := (HB.out.cell (World.block_lt_of_cell? w _ hx144_0)).trans hx144_0
      replace p144 := eq_true p144
      replace q144 := eq_true q144
      obtain ⟨Ao21, co21, eo21⟩ := Kd.R_slice za.out
      subst eo21
      have p145 : 0 ≤ ((rd l1 x20_2) : Int) := of_decide_eq_true pD
      have q145 : (rd l1 x20_2) < (x6_2.length : Int) := of_decide_eq_true pD
      obtain ⟨ad145, e145, hx145_0⟩ := Kd.at_bool (Kd.R_reads' za.out).2.2 (rd l1 x20_2) p145 q145
      (try rw [← Nbq17.out] at hx145_0)
      cases e145
      replace p145 := eq_true p145
      replace q145 := eq_true q145
      have p20 : 0 ≤ ((rd l1 x20_2) : Int) := of_decide_eq_true pD
      have q20 : ((rd l1 x20_2) : Int) < ((x6_2.length : Int) : Int) := of_decide_eq_true pD
      obtain ⟨go20, co20, zn, zo, gl20, cl20, HG20⟩ := Kd.R_form za.out (by omega)
      (first | cases zn | (injection zn with ea_ en_ ec_; (first | subst ea_ | (injection ea_ with ea_; subst ea_)); subst ec_; clear en_))
      have GB20 := aM zo
      have GG20 := aM HG20
      clear zo gl20 HG20
      (first | simp only [add_plain] at hx145_0 | skip)
      obtain ⟨hx20_0, hf20_0⟩ := Kd.R_celln false za.out ((rd l1 x20_2) : Int) p20 q20
      replace p20 := eq_true p20
      replace q20 := eq_true q20
      have HP22 := Kd.R_putg za.out ((rd l1 x20_2) : Int) true
      go_wp2_with (first | ((with_reducible refine gate_store (t := 4) (p := 39) rfl ?_); refine store_event (t := 4) (p := 39) (v := ?vo_w23) (w1 := (wr.setCell ⟨go20, ((rd l1 x20_2) : Int).toNat, none⟩ (.bool true))) ?hg ?ho ?hn ?hr ?_; (case ho => rfl); (case hg => rfl); (case hn => rfl); (case hr => first | (go_simp; done) | (go_simp; rfl)); intro w23 hw; have hg : wr.grownBy w23 (some go20) := (by rw [hw]; exact HP22.2); have hp_ : Kd.R Kd.bool 4 w23 w.heap.size (fun _ => True) (.slice (some ⟨go20, 0, none⟩) x6_2.length co21) zk := (by rw [hw, Ny146.out]; exact HP22.1); clear HP22; replace za := aM (hp_); replace HB := aM ((by rw [hw]; exact below_set (HB.out) GB20.out : Below w.heap.size w w23)); clear hg hw hp_))
      go_roundg k2
      case measure => have := HJ2.out; have := HK2.out; omega
      case rel => exact ⟨(zk), (wrap64 (x20_2 + 1)), (pF), H', ⟨by have := HJ2.out; have := HK2.out; omega⟩, ⟨pR za.out⟩, ⟨qB HB⟩⟩
     rw [if_neg c10] at H
     have zh : decide (x20_2 < (l1.length : Int)) = false := decide_eq_false c10
     clear c10
     by_cases c24 : (l1.length : Int) = 0
     rotate_left
     ·rw [if_neg c24] at H
      have zi : ((l1.length : Int) == 0) = false := beq_eq_false_iff_ne.mpr c24
      have zj : ((l1.length : Int) != 0) = true := bne_iff_ne.mpr c24
      have c24b2 : ¬ (l1 = []) := fun h_ => c24 (by rw [h_]; rfl)
      simp only [Option.some.injEq, Prod.mk.injEq] at H
      obtain ⟨rfl, rfl⟩ := H
      go_wp2
      go_ret2
      exact ⟨_, pE, pR za.out, qB HB⟩
     rw [if_pos c24] at H
     have zi : ((l1.length : Int) == 0) = true := beq_iff_eq.mpr c24
     have zj : ((l1.length : Int) != 0) = false := bne_eq_false_iff_eq.mpr c24
     clear c24
     have H' := aM H
     clear H
     obtain ⟨Ao25, zp, eo25⟩ := Kd.R_slice za.out
     subst eo25
     go_wp2
     go_loopg [46] k2 (fun kq v46 w' => ∃ (x6_3 : List Bool) (x46_3 : Int), v46 = .int .i64 x46_3 ∧ Aside0 (shape_Axes.l1 kq x6_3 (x6_2.length : Int) x46_3 = some (r1, r2)) ∧ Aside0 (kq ≤ k2) ∧ Aside0 (Kd.R Kd.bool 4 w' w.heap.size (fun _ => True) (.slice Ao25 x6_2.length zp) x6_3) ∧ Aside0 (Below w.heap.size w w'))
     case atStart => exact ⟨(x6_2), (0), (pF), H', ⟨Nat.le_refl _⟩, ⟨pR za.out⟩, ⟨qB HB⟩⟩
     case round =>
      clear H'
      try clear zh
      try clear zi
      try clear zj
      obtain ⟨x6_3, x46_3, rfl, HA, HK3, za, HB⟩ := hrel
      have hl6_3 := (Kd.R_reads' za.out).1
      rw [hl6_3] at za
      (try simp only [hl6_3])
      cases gk with
      | zero => exact absurd HA.out (by simp [shape_Axes.l1])
      | succ k3 =>
       have H := HA.out
       clear HA
       simp only [shape_Axes.l1] at H
       by_cases c26 : x46_3 < (x6_2.length : Int)
       rotate_left
       ·rw [if_neg c26] at H
        have ze : decide (x46_3 < (x6_2.length : Int)) = false := decide_eq_false c26
        (try simp only [hl6_3] at ze)
        clear c26
        simp only [Option.some.injEq, Prod.mk.injEq] at H
        obtain ⟨rfl, rfl⟩ := H
        go_wp2
        go_ret2
        exact ⟨_, pE, pR za.out, qB HB⟩
       rw [if_pos c26] at H
       have ze : decide (x46_3 < (x6_2.length : Int)) = true := decide_eq_true c26
       (try simp only [hl6_3] at ze)
       clear c26
       by_cases c27 : 0 ≤ x46_3
       rotate_left
       ·rw [if_neg c27] at H
        exact absurd H (by simp)
       rw [if_pos c27] at H
       have c27b0 : decide (0 ≤ x46_3) = true := decide_eq_true c27
       clear c27
       by_cases c28 : x46_3 < (x6_3.length : Int)
       rotate_left
       ·rw [if_neg c28] at H
        exact absurd H (by simp)
       rw [if_pos c28] at H
       have c28b0 : decide (x46_3 < (x6_3.length : Int)) = true := decide_eq_true c28
       (try simp only [hl6_3] at c28b0)
       clear c28
       obtain ⟨zl, zf⟩ : ∃ y_ : List Bool, y_ = (x6_3.set (x46_3 : Int).toNat true) := ⟨_, rfl⟩
       replace H : (shape_Axes.l1 k3 zl (x6_2.length : Int) (wrap64 (x46_3 + 1))) = some (r1, r2) := pH zf H
       have Ny147 := aM zf
       clear zf
       have H' := aM H
       clear H
       have p29 : 0 ≤ (x46_3 : Int) := of_decide_eq_true pD
       have q29 : (x46_3 : Int) < ((x6_3.length : Int) : Int) := of_decide_eq_true pD
       obtain ⟨go29, co29, zq, zr, gl29, cl29, HG29⟩ := Kd.R_form za.out (by omega)
       (first | cases zq | (injection zq with ea_ en_ ec_; (first | subst ea_ | (injection ea_ with ea_; subst ea_)); subst ec_; clear en_))
       have GB29 := aM zr
       have GG29 := aM HG29
       clear zr gl29 HG29
       obtain ⟨hx29_0, hf29_0⟩ := Kd.R_celln false za.out (x46_3 : Int) p29 q29
       replace p29 := eq_true p29
       replace q29 := eq_true q29
       have HP30 := Kd.R_putg za.out (x46_3 : Int) true
       go_wp2_with (first | ((with_reducible refine gate_store (t := 4) (p := 51) rfl ?_); refine store_event (t := 4) (p := 51) (v := ?vo_w31) (w1 := (wr.setCell ⟨go29, (x46_3 : Int).toNat, none⟩ (.bool true))) ?hg ?ho ?hn ?hr ?_; (case ho => rfl); (case hg => rfl); (case hn => rfl); (case hr => first | (go_simp; done) | (go_simp; rfl)); intro w31 hw; have hg : wr.grownBy w31 (some go29) := (by rw [hw]; exact HP30.2); have hp_ : Kd.R Kd.bool 4 w31 w.heap.size (fun _ => True) (.slice (some ⟨go29, 0, none⟩) x6_3.length zp) zl := (by rw [hw, Ny147.out]; exact HP30.1); clear HP30; replace za := aM (hp_); replace HB := aM ((by rw [hw]; exact below_set (HB.out) GB29.out : Below w.heap.size w w31)); clear hg hw hp_))
       (try simp only [← hl6_3])
       go_roundg k3
       case measure => have := HJ2.out; have := HK2.out; have := HK3.out; omega
       case rel => exact ⟨(zl), (wrap64 (x46_3 + 1)), (pF), H', ⟨by have := HJ2.out; have := HK2.out; have := HK3.out; omega⟩, ⟨by (try simp only [hl6_3]); (with_reducible repeat (first | apply rA | apply rN | apply rD)); exact za.out⟩, ⟨qB HB⟩⟩
end Go.Proofs.Ytjbpekblcecneaa.Q
