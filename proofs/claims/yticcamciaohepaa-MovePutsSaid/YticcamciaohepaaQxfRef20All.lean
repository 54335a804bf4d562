-- By wip/gprint.py (this session's), out of the kit's print.py.
import Derived.Test.YticcamciaohepaaQx0
import Derived.Test.YticcamciaohepaaQxfRef19Check
namespace Go.Proofs.Yticcamciaohepaa.Q
open Go.RowKit Go.Proofs.YticcamciaohepaaW.PrintWords Go.Proofs.YticcamciaohepaaW.PrintLast Go.Proofs.YticcamciaohepaaW.PrintMore
attribute [local go_sem] max2_int min2_int max_two min_two max_three min_three max_four min_four   -- for this text's walks alone
set_option linter.unusedVariables false
set_option linter.unusedSimpArgs false

/-! ### gradineref20_All: function 30 -/
mutual
def gradineref20_All.l0 : Nat → List Int → List (List Int) → Int → Int → Option ((List (List Int)))
 | 0, _, _, _, _ => none
 | k + 1, x0, x3, x14, x15 => if x15 < x14 then (gradineref20_All.l1 k x0 x3 x15 ([] : List (List Int)) x14 x15 (x3.length : Int) 0) else (some x3)
def gradineref20_All.l1 : Nat → List Int → List (List Int) → Int → List (List Int) → Int → Int → Int → Int → Option ((List (List Int)))
 | 0, _, _, _, _, _, _, _, _ => none
 | k + 1, x0, x3, x4, x5, x14, x15, x19, x20 => if x20 < x19 then (if 0 ≤ x4 then (if x4 < (x0.length : Int) then (gradineref20_All.l2 k x0 x3 x4 x5 x20 x14 x15 x19 x20 (rd x0 x4) 0) else (none)) else (none)) else (gradineref20_All.l0 k x0 x5 x14 (wrap64 (x15 + 1)))
def gradineref20_All.l2 : Nat → List Int → List (List Int) → Int → List (List Int) → Int → Int → Int → Int → Int → Int → Int → Option ((List (List Int)))
 | 0, _, _, _, _, _, _, _, _, _, _, _ => none
 | k + 1, x0, x3, x4, x5, x6, x14, x15, x19, x20, x26, x27 => if x27 < x26 then ((some (([] : List Int) : List Int)).bind fun zf => (if 0 ≤ x6 then (if x6 < (x3.length : Int) then (if zf.length + (rd_L1 x3 x6).length < 17592186044416 then ((some (zf ++ (rd_L1 x3 x6) : List Int)).bind fun zd => (if zd.length < 17592186044416 then (if x5.length < 5864062014805 then (gradineref20_All.l2 k x0 x3 x4 (x5 ++ [(zd ++ [x27])]) x6 x14 x15 x19 x20 x26 (wrap64 (x27 + 1))) else (none)) else (none))) else (none)) else (none)) else (none))) else (gradineref20_All.l1 k x0 x3 x4 x5 x14 x15 x19 (wrap64 (x20 + 1)))
end
def gradineref20_All.f (k : Nat) (l0 : List Int) : Option ((List (List Int))) := (gradineref19_Check.f k l0).bind fun ze => (if ze = 0 then (gradineref20_All.l0 k l0 (([(([] : List Int))] : List (List Int))) (l0.length : Int) 0) else (some ([] : List (List Int))))
set_option maxHeartbeats 8000000 in
set_option maxRecDepth 100000 in
theorem gradineref20_All.calls (k : Nat) (A0 : Option Addr) (c0 : Nat) (l0 : List Int) (r : List (List Int)) (w : World) (hr0 : Kd.C (Kd.int .i64) w A0 l0.length l0) (hc0 : l0.length ≤ c0) (h : gradineref20_All.f k l0 = some r) :
  Calls Try.prog 30 #[.slice A0 l0.length c0] w fun e w' => ∃ v0_ : Value, e = .returned (v0_) ∧ Kd.N (Kd.slice 3 (Kd.int .i64)) 22 w' w.heap.size (fun k_ => (w.heap.size ≤ k_)) v0_ r ∧ Below w.heap.size w w' := by
 have HR0 := aM hr0
 have HC0 := aM hc0
 clear hr0 hc0
 have HB := aM (Below.refl w.heap.size w)
 have H : ((gradineref19_Check.f k l0).bind fun ze => (if ze = 0 then (gradineref20_All.l0 k l0 (([(([] : List Int))] : List (List Int))) (l0.length : Int) 0) else (some ([] : List (List Int))))) = some r := h
 clear h
 replace H := Option.bind_eq_some_iff.mp H
 obtain ⟨ze, A20, H⟩ := H
 try dsimp only at H
 have A2 := aM A20
 clear A20
 by_cases c3 : ze = 0
 rotate_left
 ·rw [if_neg c3] at H
  have z0 : (ze == 0) = false := beq_eq_false_iff_ne.mpr c3
  have z1 : (ze != 0) = true := bne_iff_ne.mpr c3
  obtain rfl := Option.some.inj H
  go_enter Try.func30, Try.ntmps30
  go_wp2_with (first | ((with_reducible refine gate_callee (f := 14) rfl ?_); refine goesL_ (some 9) rfl rfl Try.func14 (by kernel_rfl) rfl #[.slice A0 l0.length c0] rfl pA ?_; (with_reducible refine (gradineref19_Check.calls k _ _ l0 ze _ ?s1 ?s2 A2.out).mono ?_); (case s1 => exact pC HR0.out); (case s2 => exact HC0.out); rintro e w' ⟨rfl, ⟨nd, rfl⟩⟩; refine ⟨_, rfl, ?_⟩))
  go_ret
  exact ⟨_, pE, pN, qB HB⟩

 rw [if_pos c3] at H
 have z0 : (ze == 0) = true := beq_iff_eq.mpr c3
 have z1 : (ze != 0) = false := bne_eq_false_iff_eq.mpr c3
 clear c3
 obtain ⟨zj, zl⟩ : ∃ y_ : List Int, y_ = (([] : List Int)) := ⟨_, rfl⟩
 replace H : (gradineref20_All.l0 k l0 (([zj] : List (List Int))) (l0.length : Int) 0) = some r := pH zl H
 have zs := aM zl
 clear zl
 obtain ⟨z2, zm⟩ : ∃ y_ : List (List Int), y_ = (([zj] : List (List Int))) := ⟨_, rfl⟩
 replace H : (gradineref20_All.l0 k l0 z2 (l0.length : Int) 0) = some r := pH zm H
 have zt := aM zm
 clear zm
 have H' := aM H
 clear H
 go_enter Try.func30, Try.ntmps30
 go_wp2_with (first | ((with_reducible refine gate_callee (f := 14) rfl ?_); refine goesL_ (some 9) rfl rfl Try.func14 (by kernel_rfl) rfl #[.slice A0 l0.length c0] rfl pA ?_; (with_reducible refine (gradineref19_Check.calls k _ _ l0 ze _ ?s1 ?s2 A2.out).mono ?_); (case s1 => exact pC HR0.out); (case s2 => exact HC0.out); rintro e w' ⟨rfl, ⟨nd, rfl⟩⟩; refine ⟨_, rfl, ?_⟩) | ((with_reducible refine gate_dst (N := 11) rfl ?_); refine Kd.R_lit (Kd.int .i64) _ 3 ?hg (N := 11) ?hd (xs := ([] : List Int)) (inner := []) (ok := fun _ => True) (okp := fun _ => True) ?hr ?hp (fun _ hk => hk) trivial (Below.refl _ _) (Nat.le_refl _) (by simp) ?_; (case hd => rfl); (case hg => rfl); (case hr => first | (go_simp; done) | (go_simp; rfl)); (case hp => exact (Reps.none _ _)); intro v498 w4 ho5 hb hg_ hnew_; clear hg_ hnew_; (first | rw [← zs.out] at ho5 | (simp only [Int.reduceToNat] at ho5; rw [← zs.out] at ho5)); have zg := aM (Kd.R_lower (Kd.R_newM (M := fun k_ => (w.heap.size ≤ k_)) ho5 (below_size (qB HB)) (fun k_ h_ => h_)) (below_size (qB HB))); replace HB := bS (qB HB) hb; clear hb ho5; obtain ⟨Ao6, co6, eo6⟩ := Kd.R_slice zg.out; subst eo6) | ((with_reducible refine gate_dst (N := 12) rfl ?_); refine Kd.N_lit (Kd.slice 3 (Kd.int .i64)) _ 22 ?hg (N' := 12) ?hd (xs := ([zj] : List (List Int))) (inner := [.slice Ao6 zj.length co6]) (ok := (fun k_ => (w.heap.size ≤ k_))) (okp := (fun k_ => (w.heap.size ≤ k_))) ?hr ?hp (fun _ hk => hk) ((show ∀ k_, w4.heap.size ≤ k_ → (fun k_ => (w.heap.size ≤ k_)) k_ from fun k_ hk => (Nat.le_trans (below_size (qB HB)) hk)) _ (Nat.le_refl _)) (Below.refl _ _) (Nat.le_refl _) (by simp) ?_; (case hd => rfl); (case hg => rfl); (case hr => first | (go_simp; done) | (go_simp; rfl)); (case hp => exact (Reps.one (show Kd.FK (Kd.slice 3 (Kd.int .i64)) _ _ zj [.slice Ao6 zj.length co6] from (Kd.FK_slice_mk (Kd.R_reads' (Kd.R_mono (ok' := (fun k_ => (w.heap.size ≤ k_))) (zg.out) (fun k_ hk => hk.1))).2.1 (Kd.R_F (Kd.R_mono (ok' := (fun k_ => (w.heap.size ≤ k_))) (zg.out) (fun k_ hk => hk.1))))) (Reps.none _ _))); intro v501 w7 ho8 hb hg_ hnew_; clear hg_ hnew_; (first | rw [← zt.out] at ho8 | (simp only [Int.reduceToNat] at ho8; rw [← zt.out] at ho8)); have HO502 := aM (Kd.N_lower ho8 (below_size (qB HB))); replace HB := bS (qB HB) hb; clear zg; clear hb ho8))
 go_loopg [3, 15] k (fun kq v3 v15 w' => ∃ (x3_1 : List (List Int)) (x15_1 : Int), v15 = .int .i64 x15_1 ∧ Aside0 (gradineref20_All.l0 kq l0 x3_1 (l0.length : Int) x15_1 = some r) ∧ Aside0 (kq ≤ k) ∧ Aside0 (Kd.N (Kd.slice 3 (Kd.int .i64)) 22 w' w.heap.size (fun k_ => (w.heap.size ≤ k_)) v3 x3_1) ∧ Aside0 (Below w.heap.size w w'))
 case atStart => exact ⟨(z2), (0), (pF), H', ⟨Nat.le_refl _⟩, ⟨by (with_reducible repeat (first | apply Kd.N_alloc | apply Kd.N_drewN | apply Kd.N_drew)); exact HO502.out⟩, ⟨qB HB⟩⟩
 case round =>
  clear H'
  try clear z0
  try clear z1
  obtain ⟨x3_1, x15_1, rfl, HA, HK1, za, HB⟩ := hrel
  cases gk with
  | zero => exact absurd HA.out (by simp [gradineref20_All.l0])
  | succ k1 =>
   have H := HA.out
   clear HA
   simp only [gradineref20_All.l0] at H
   by_cases c9 : x15_1 < (l0.length : Int)
   rotate_left
   ·rw [if_neg c9] at H
    have z3 : decide (x15_1 < (l0.length : Int)) = false := decide_eq_false c9
    clear c9
    obtain rfl := Option.some.inj H
    go_wp2
    go_ret
    exact ⟨_, pE, by (with_reducible repeat (first | apply Kd.N_alloc | apply Kd.N_drewN | apply Kd.N_drew)); exact za.out, qB HB⟩
   rw [if_pos c9] at H
   have z3 : decide (x15_1 < (l0.length : Int)) = true := decide_eq_true c9
   clear c9
   have H' := aM H
   clear H
   obtain ⟨zr, zc, eo10⟩ := Kd.N_slice za.out
   subst eo10
   go_wp2
   go_loopg [5, 20] k1 (fun kq v5 v20 w' => ∃ (x5_2 : List (List Int)) (x20_2 : Int), v20 = .int .i64 x20_2 ∧ Aside0 (gradineref20_All.l1 kq l0 x3_1 x15_1 x5_2 (l0.length : Int) x15_1 (x3_1.length : Int) x20_2 = some r) ∧ Aside0 (kq ≤ k1) ∧ Aside0 (Kd.N (Kd.slice 3 (Kd.int .i64)) 22 w' w.heap.size (fun k_ => (w.heap.size ≤ k_) ∧ some k_ ≠ (v5 : Value).ownBlock) (.slice zr x3_1.length zc) x3_1) ∧ Aside0 (Kd.N (Kd.slice 3 (Kd.int .i64)) 22 w' w.heap.size (fun k_ => (w.heap.size ≤ k_) ∧ some k_ ≠ ((.slice zr x3_1.length zc) : Value).ownBlock) v5 x5_2) ∧ Aside0 (Below w.heap.size w w'))
   case atStart => exact ⟨(([] : List (List Int))), (0), (pF), H', ⟨Nat.le_refl _⟩, ⟨by (with_reducible repeat (first | apply Kd.N_alloc | apply Kd.N_drewN | apply Kd.N_drew)); exact Kd.N_mono za.out (fun _ hk => ⟨hk, (by simp [Value.ownBlock])⟩)⟩, ⟨pN⟩, ⟨qB HB⟩⟩
   case round =>
    clear H'
    try clear z3
    obtain ⟨x5_2, x20_2, rfl, HA, HK2, za, zb, HB⟩ := hrel
    cases gk with
    | zero => exact absurd HA.out (by simp [gradineref20_All.l1])
    | succ k2 =>
     have H := HA.out
     clear HA
     simp only [gradineref20_All.l1] at H
     by_cases c11 : x20_2 < (x3_1.length : Int)
     rotate_left
     ·rw [if_neg c11] at H
      have zu : decide (x20_2 < (x3_1.length : Int)) = false := decide_eq_false c11
      clear c11
      have H' := aM H
      clear H
      go_wp2
      go_roundg k2
      case measure => have := HK1.out; have := HK2.out; omega
      case rel => exact ⟨(x5_2), (wrap64 (x15_1 + 1)), (pF), H', ⟨by have := HK1.out; have := HK2.out; omega⟩, ⟨by (with_reducible repeat (first | apply Kd.N_alloc | apply Kd.N_drewN | apply Kd.N_drew)); exact Kd.N_mono zb.out (fun _ hk => hk.1)⟩, ⟨qB HB⟩⟩
     rw [if_pos c11] at H
     have zu : decide (x20_2 < (x3_1.length : Int)) = true := decide_eq_true c11
     clear c11
     by_cases c12 : 0 ≤ x15_1
     rotate_left
     ·rw [if_neg c12] at H
      exact absurd H (by simp)
     rw [if_pos c12] at H
     have c12b0 : decide (0 ≤ x15_1) = true := decide_eq_true c12
     clear c12
     by_cases c13 : x15_1 < (l0.length : Int)
     rotate_left
     ·rw [if_neg c13] at H
      exact absurd H (by simp)
     rw [if_pos c13] at H
     have c13b0 : decide (x15_1 < (l0.length : Int)) = true := decide_eq_true c13
     clear c13
     have H' := aM H
     clear H
     have p503 : 0 ≤ (x15_1 : Int) := of_decide_eq_true pD
     have q503 : x15_1 < (l0.length : Int) := of_decide_eq_true pD
     obtain ⟨ad503, e503, hx503_0⟩ := Kd.at_int HR0.out x15_1 p503 q503
     cases e503
     replace hx503_0 := (HB.out.cell (World.block_lt_of_cell? w _ hx503_0)).trans hx503_0
     replace p503 := eq_true p503
     replace q503 := eq_true q503
     go_wp2
     go_loopg [5, 27] k2 (fun kq v5 v27 w' => ∃ (x5_3 : List (List Int)) (x27_3 : Int), v27 = .int .i64 x27_3 ∧ Aside0 (gradineref20_All.l2 kq l0 x3_1 x15_1 x5_3 x20_2 (l0.length : Int) x15_1 (x3_1.length : Int) x20_2 (rd l0 x15_1) x27_3 = some r) ∧ Aside0 (kq ≤ k2) ∧ Aside0 (Kd.N (Kd.slice 3 (Kd.int .i64)) 22 w' w.heap.size (fun k_ => (w.heap.size ≤ k_) ∧ some k_ ≠ (v5 : Value).ownBlock) (.slice zr x3_1.length zc) x3_1) ∧ Aside0 (Kd.N (Kd.slice 3 (Kd.int .i64)) 22 w' w.heap.size (fun k_ => (w.heap.size ≤ k_) ∧ some k_ ≠ ((.slice zr x3_1.length zc) : Value).ownBlock) v5 x5_3) ∧ Aside0 (Below w.heap.size w w'))
     case atStart => exact ⟨(x5_2), (0), (pF), H', ⟨Nat.le_refl _⟩, ⟨by (with_reducible repeat (first | apply Kd.N_alloc | apply Kd.N_drewN | apply Kd.N_drew)); exact za.out⟩, ⟨by (with_reducible repeat (first | apply Kd.N_alloc | apply Kd.N_drewN | apply Kd.N_drew)); exact zb.out⟩, ⟨qB HB⟩⟩
     case round =>
      clear H'
      try clear zu
      try clear c12b0
      try clear c13b0
      try clear hx503_0
      try clear p503
      try clear q503
      obtain ⟨x5_3, x27_3, rfl, HA, HK3, za, zb, HB⟩ := hrel
      cases gk with
      | zero => exact absurd HA.out (by simp [gradineref20_All.l2])
      | succ k3 =>
       have H := HA.out
       clear HA
       simp only [gradineref20_All.l2] at H
       by_cases c14 : x27_3 < (rd l0 x15_1)
       rotate_left
       ·rw [if_neg c14] at H
        have c14b0 : decide (x27_3 < (rd l0 x15_1)) = false := decide_eq_false c14
        clear c14
        have H' := aM H
        clear H
        go_wp2
        go_roundg k3
        case measure => have := HK1.out; have := HK2.out; have := HK3.out; omega
        case rel => exact ⟨(x5_3), (wrap64 (x20_2 + 1)), (pF), H', ⟨by have := HK1.out; have := HK2.out; have := HK3.out; omega⟩, ⟨by (with_reducible repeat (first | apply Kd.N_alloc | apply Kd.N_drewN | apply Kd.N_drew)); exact za.out⟩, ⟨by (with_reducible repeat (first | apply Kd.N_alloc | apply Kd.N_drewN | apply Kd.N_drew)); exact zb.out⟩, ⟨qB HB⟩⟩
       rw [if_pos c14] at H
       have c14b0 : decide (x27_3 < (rd l0 x15_1)) = true := decide_eq_true c14
       clear c14
       obtain ⟨zf, zn⟩ : ∃ y_ : List Int, y_ = (([] : List Int)) := ⟨_, rfl⟩
       replace H : (if 0 ≤ x20_2 then (if x20_2 < (x3_1.length : Int) then (if zf.length + (rd_L1 x3_1 x20_2).length < 17592186044416 then ((some (zf ++ (rd_L1 x3_1 x20_2) : List Int)).bind fun zd => (if zd.length < 17592186044416 then (if x5_3.length < 5864062014805 then (gradineref20_All.l2 k3 l0 x3_1 x15_1 (x5_3 ++ [(zd ++ [x27_3])]) x20_2 (l0.length : Int) x15_1 (x3_1.length : Int) x20_2 (rd l0 x15_1) (wrap64 (x27_3 + 1))) else (none)) else (none))) else (none)) else (none)) else (none)) = some r := pH zn H
       have zv := aM zn
       clear zn
       by_cases c15 : 0 ≤ x20_2
       rotate_left
       ·rw [if_neg c15] at H
        exact absurd H (by simp)
       rw [if_pos c15] at H
       have c15b0 : decide (0 ≤ x20_2) = true := decide_eq_true c15
       clear c15
       by_cases c16 : x20_2 < (x3_1.length : Int)
       rotate_left
       ·rw [if_neg c16] at H
        exact absurd H (by simp)
       rw [if_pos c16] at H
       have c16b0 : decide (x20_2 < (x3_1.length : Int)) = true := decide_eq_true c16
       clear c16
       by_cases c17 : zf.length + (rd_L1 x3_1 x20_2).length < 17592186044416
       rotate_left
       ·rw [if_neg c17] at H
        exact absurd H (by simp)
       rw [if_pos c17] at H
       have LMc17 := aM c17
       clear c17
       obtain ⟨zd, zo⟩ : ∃ y_ : List Int, y_ = (zf ++ (rd_L1 x3_1 x20_2)) := ⟨_, rfl⟩
       replace H : (if zd.length < 17592186044416 then (if x5_3.length < 5864062014805 then (gradineref20_All.l2 k3 l0 x3_1 x15_1 (x5_3 ++ [(zd ++ [x27_3])]) x20_2 (l0.length : Int) x15_1 (x3_1.length : Int) x20_2 (rd l0 x15_1) (wrap64 (x27_3 + 1))) else (none)) else (none)) = some r := pH zo H
       have Ny508 := aM zo
       clear zo
       by_cases c18 : zd.length < 17592186044416
       rotate_left
       ·rw [if_neg c18] at H
        exact absurd H (by simp)
       rw [if_pos c18] at H
       have LMc18 := aM c18
       clear c18
       obtain ⟨zk, zp⟩ : ∃ y_ : List Int, y_ = (zd ++ [x27_3]) := ⟨_, rfl⟩
       replace H : (if x5_3.length < 5864062014805 then (gradineref20_All.l2 k3 l0 x3_1 x15_1 (x5_3 ++ [zk]) x20_2 (l0.length : Int) x15_1 (x3_1.length : Int) x20_2 (rd l0 x15_1) (wrap64 (x27_3 + 1))) else (none)) = some r := pH zp H
       have Ny511 := aM zp
       clear zp
       by_cases c19 : x5_3.length < 5864062014805
       rotate_left
       ·rw [if_neg c19] at H
        exact absurd H (by simp)
       rw [if_pos c19] at H
       have LMc19 := aM c19
       clear c19
       obtain ⟨z4, zq⟩ : ∃ y_ : List (List Int), y_ = (x5_3 ++ [zk]) := ⟨_, rfl⟩
       replace H : (gradineref20_All.l2 k3 l0 x3_1 x15_1 z4 x20_2 (l0.length : Int) x15_1 (x3_1.length : Int) x20_2 (rd l0 x15_1) (wrap64 (x27_3 + 1))) = some r := pH zq H
       have Ny514 := aM zq
       clear zq
       have H' := aM H
       clear H
       go_wp2_with (first | ((with_reducible refine gate_dst (N := 31) rfl ?_); refine Kd.R_lit (Kd.int .i64) _ 3 ?hg (N := 31) ?hd (xs := ([] : List Int)) (inner := []) (ok := fun _ => True) (okp := fun _ => True) ?hr ?hp (fun _ hk => hk) trivial (Below.refl _ _) (Nat.le_refl _) (by simp) ?_; (case hd => rfl); (case hg => rfl); (case hr => first | (go_simp; done) | (go_simp; rfl)); (case hp => exact (Reps.none _ _)); intro v505 w20 ho21 hb hg_ hnew_; clear hg_ hnew_; (first | rw [← zv.out] at ho21 | (simp only [Int.reduceToNat] at ho21; rw [← zv.out] at ho21)); replace za := aM (Kd.N_elder' (by (with_reducible repeat (first | apply Kd.N_alloc | apply Kd.N_drewN | apply Kd.N_drew)); exact za.out) (Kd.R_base ho21) hb); replace zb := aM (Kd.N_elder' (by (with_reducible repeat (first | apply Kd.N_alloc | apply Kd.N_drewN | apply Kd.N_drew)); exact zb.out) (Kd.R_base ho21) hb); have zw := aM (Kd.R_lower (Kd.R_newM (M := fun k_ => (w.heap.size ≤ k_)) ho21 (below_size (qB HB)) (fun k_ h_ => h_)) (below_size (qB HB))); replace HB := bS (qB HB) hb; clear hb ho21; have p507 : 0 ≤ (x20_2 : Int) := of_decide_eq_true pD; have q507 : x20_2 < (x3_1.length : Int) := of_decide_eq_true pD; obtain ⟨ad507, A507_0, c507_0, e507, hx507_0, hl507_0, hi507_0⟩ := at_L1 (Kd.N_reads' za.out).2.2 x20_2 p507 q507; cases e507; obtain ⟨ce507, hce507, hMe507, hcc507⟩ := Kd.N_get za.out [] x20_2 p507 (by first | exact q507 | exact of_decide_eq_true pD | (have e_ := (Kd.N_reads' za.out).1; omega)); obtain ⟨ua507_0, uc507_0, rfl, ul507_0, ge507_0⟩ := Kd.FK_slice_open hMe507; have hv507_0 := hcc507 0 _ rfl; rw [Nat.add_zero, show ((Kd.slice 3 (Kd.int .i64))).sz = 1 from rfl, Nat.mul_one] at hv507_0; replace hv507_0 := Option.some.inj (hv507_0.symm.trans hx507_0); injection hv507_0 with hva_ hvn_ hvc_; rw [hva_] at ge507_0; rw [hvc_] at ul507_0; have HL507_0 := aM (show Kd.V (Kd.int .i64) 3 _ w.heap.size _ _ (rd_L1 x3_1 x20_2) from Kd.V_mk ul507_0 ge507_0); clear hva_ hvn_ hvc_ ge507_0 ul507_0; clear hcc507 hce507; have zh := aM hi507_0; have HC507_0 := aM hl507_0; clear hi507_0 hl507_0; replace p507 := eq_true p507; replace q507 := eq_true q507) | ((with_reducible refine gate_builtin (b := .append) (xs := #[.tmp 31, .tmp 35]) rfl ?_); at_builtin; refine Kd.R_append_rows (Kd.int .i64) (w0 := w) w.heap.size rfl (.tmp 31) (.tmp 35) 22 3 (.int .i64 0) 8 rfl Try.underlying22 info3 rfl (by decide) (by omega) v505 zf (rd_L1 x3_1 x20_2) _ _ _ (fun k_ => (w.heap.size ≤ k_)) (fun _ => False) rfl rfl ?aO ?aR (fun _ _ h => h) (fun _ h => h.elim) ?aF ?aB ?aS ?aL ?_; (case aR => repeat (first | exact (by repeat (first | (with_reducible exact zh.out) | (with_reducible refine Kd.C_alloc ?_ _) | (with_reducible refine Kd.C_drewN ?_ _) | (with_reducible refine Kd.C_drew ?_) | exact zh.out)) | (with_reducible refine Kd.C_alloc ?_ _) | (with_reducible refine Kd.C_drewN ?_ _) | (with_reducible refine Kd.C_drew ?_))); (case aB => exact (qB HB)); (case aF => exact (fun k_ hk => (Nat.le_trans (below_size (qB HB)) hk))); (case aO => exact (by (with_reducible repeat (first | apply rA | apply rN | apply rD)); exact Kd.R_mono zw.out (fun _ hk => hk.1))); (case aS => exact (below_size (qB HB))); (case aL => have := LMc17.out; omega); intro v509 w22 ho hb hg hat; rw [← Ny508.out] at ho; replace za := aM (Kd.N_afterv (ok := (fun k_ => (w.heap.size ≤ k_) ∧ some k_ ≠ (u5 : Value).ownBlock)) (by (with_reducible repeat (first | apply Kd.N_alloc | apply Kd.N_drewN | apply Kd.N_drew)); exact za.out) hg hat); replace zb := aM (Kd.N_afterv (ok := (fun k_ => (w.heap.size ≤ k_) ∧ some k_ ≠ (.slice (some ad507) x3_1.length zc : Value).ownBlock)) (by (with_reducible repeat (first | apply Kd.N_alloc | apply Kd.N_drewN | apply Kd.N_drew)); exact zb.out) hg hat); replace HL507_0 := aM (Kd.V_afterv (ok := (fun k_ => (w.heap.size ≤ k_) ∧ some k_ ≠ (.slice (some ad507) x3_1.length zc : Value).ownBlock ∧ some k_ ≠ (u5 : Value).ownBlock)) (by (with_reducible repeat (first | apply Kd.V_alloc | apply Kd.V_drewN | apply Kd.V_drew)); exact Kd.V_mono HL507_0.out (fun _ hk => ⟨⟨hk.1.1.1, ⟨hk.2, hk.1.1.2⟩⟩, hk.1.2⟩)) hg hat); replace HB := aM (hb); have zx := aM (ho); clear zw; clear ho hb hg hat) | ((with_reducible refine gate_builtin (b := .append) (xs := #[.tmp 36, .tmp 38]) rfl ?_); at_builtin; refine Kd.R_append (Kd.int .i64) (w0 := w) w.heap.size rfl (.tmp 36) (.tmp 38) 22 3 (.int .i64 0) 8 rfl Try.underlying22 info3 rfl (by decide) (by omega) v509 zd x27_3 [.int .i64 x27_3] (fun k_ => (w.heap.size ≤ k_)) (fun _ => False) rfl rfl ?aP (fun _ hk => hk.elim) ?aF ?aO ?aB ?aS ?aL ?_; (case aP => exact rfl); (case aB => exact (qB HB)); (case aF => exact (fun k_ hk => (Nat.le_trans (below_size (qB HB)) hk))); (case aO => exact (pR zx.out)); (case aS => exact (below_size (qB HB))); (case aL => have := LMc18.out; omega); intro v512 w23 ho hb hg hat; rw [← Ny511.out] at ho; replace za := aM (Kd.N_afterv (ok := (fun k_ => (w.heap.size ≤ k_) ∧ some k_ ≠ (u5 : Value).ownBlock)) (by (with_reducible repeat (first | apply Kd.N_alloc | apply Kd.N_drewN | apply Kd.N_drew)); exact za.out) hg hat); replace zb := aM (Kd.N_afterv (ok := (fun k_ => (w.heap.size ≤ k_) ∧ some k_ ≠ (.slice (some ad507) x3_1.length zc : Value).ownBlock)) (by (with_reducible repeat (first | apply Kd.N_alloc | apply Kd.N_drewN | apply Kd.N_drew)); exact zb.out) hg hat); replace HL507_0 := aM (Kd.V_afterv (ok := (fun k_ => (w.heap.size ≤ k_) ∧ some k_ ≠ (.slice (some ad507) x3_1.length zc : Value).ownBlock ∧ some k_ ≠ (u5 : Value).ownBlock)) (pV HL507_0.out) hg hat); replace HB := aM (hb); have zi := aM (ho); clear zx; clear ho hb hg hat; obtain ⟨zy, zz, eo25⟩ := Kd.R_slice zi.out; subst eo25) | ((with_reducible refine gate_builtin (b := .append) (xs := #[.tmp 30, .tmp 40]) rfl ?_); at_builtin; refine Kd.N_append (Kd.slice 3 (Kd.int .i64)) (w0 := w) w.heap.size rfl (.tmp 30) (.tmp 40) 26 22 (.slice none 0 0) 24 rfl Try.underlying26 info22 rfl (by decide) (by omega) u5 x5_3 zk [.slice zy zk.length zz] (fun k_ => (w.heap.size ≤ k_) ∧ some k_ ≠ (.slice (some ad507) x3_1.length zc : Value).ownBlock) (fun k_ => ((fun k_ => (w.heap.size ≤ k_) ∧ some k_ ≠ (.slice (some ad507) x3_1.length zc : Value).ownBlock)) k_ ∧ some k_ ≠ (u5 : Value).ownBlock) rfl rfl ?aP (fun _ hk => hk) ?aF ?aO ?aB ?aS ?aL ?_; (case aP => exact (Kd.FK_slice_mk (Kd.R_reads' (Kd.R_mono (ok' := (fun k_ => ((fun k_ => (w.heap.size ≤ k_) ∧ some k_ ≠ (.slice (some ad507) x3_1.length zc : Value).ownBlock)) k_ ∧ some k_ ≠ (u5 : Value).ownBlock)) (Kd.R_apart' (Kd.R_apart' (zi.out) (Kd.N_typed za.out) (by decide)) (Kd.N_typed zb.out) (by decide)) (fun k_ hk => ⟨⟨hk.1.1, hk.1.2⟩, hk.2⟩))).2.1 (Kd.R_F (Kd.R_mono (ok' := (fun k_ => ((fun k_ => (w.heap.size ≤ k_) ∧ some k_ ≠ (.slice (some ad507) x3_1.length zc : Value).ownBlock)) k_ ∧ some k_ ≠ (u5 : Value).ownBlock)) (Kd.R_apart' (Kd.R_apart' (zi.out) (Kd.N_typed za.out) (by decide)) (Kd.N_typed zb.out) (by decide)) (fun k_ hk => ⟨⟨hk.1.1, hk.1.2⟩, hk.2⟩))))); (case aB => exact (qB HB)); (case aF => exact (fun k_ hk => ⟨(Nat.le_trans (below_size (qB HB)) hk), Kd.fresh' (Kd.N_lt (by (with_reducible repeat (first | apply Kd.N_alloc | apply Kd.N_drewN | apply Kd.N_drew)); exact za.out)) k_ hk⟩)); (case aO => exact (by (with_reducible repeat (first | apply Kd.N_alloc | apply Kd.N_drewN | apply Kd.N_drew)); exact Kd.N_mono zb.out (fun _ hk => ⟨hk.1.1, hk.1.2⟩))); (case aS => exact (below_size (qB HB))); (case aL => have := LMc19.out; omega); intro v515 w24 ho hb hg hat; rw [← Ny514.out] at ho; replace za := aM (Kd.N_afterv (ok := (fun k_ => (w.heap.size ≤ k_) ∧ some k_ ≠ (.slice zy zk.length zz : Value).ownBlock)) (by (with_reducible repeat (first | apply Kd.N_alloc | apply Kd.N_drewN | apply Kd.N_drew)); exact Kd.N_mono za.out (fun _ hk => ⟨⟨hk.1.1, hk.2⟩, hk.1.2⟩)) hg hat); replace HL507_0 := aM (Kd.V_afterv (ok := (fun k_ => (w.heap.size ≤ k_) ∧ some k_ ≠ (.slice (some ad507) x3_1.length zc : Value).ownBlock ∧ some k_ ≠ (.slice zy zk.length zz : Value).ownBlock)) (by (with_reducible repeat (first | apply Kd.V_alloc | apply Kd.V_drewN | apply Kd.V_drew)); exact Kd.V_mono HL507_0.out (fun _ hk => ⟨⟨hk.1.1, ⟨hk.1.2.1, hk.2⟩⟩, hk.1.2.2⟩)) hg hat); replace HB := aM (hb); have HO516 := aM (ho); clear zb zi; clear ho hb hg hat))
       go_roundg k3
       case measure => have := HK1.out; have := HK2.out; have := HK3.out; omega
       case rel => exact ⟨(z4), (wrap64 (x27_3 + 1)), (pF), H', ⟨by have := HK1.out; have := HK2.out; have := HK3.out; omega⟩, ⟨by (with_reducible repeat (first | apply Kd.N_alloc | apply Kd.N_drewN | apply Kd.N_drew)); exact Kd.N_mono za.out (fun _ hk => ⟨hk.1.1, hk.2⟩)⟩, ⟨by (with_reducible repeat (first | apply Kd.N_alloc | apply Kd.N_drewN | apply Kd.N_drew)); exact HO516.out⟩, ⟨qB HB⟩⟩
end Go.Proofs.Yticcamciaohepaa.Q
