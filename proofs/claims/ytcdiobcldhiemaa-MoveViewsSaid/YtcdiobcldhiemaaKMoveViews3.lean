/- Texts of the proof of MoveViews, part 3: what functions of the program compute, and that they compute it. -/
import Derived.Test.YtcdiobcldhiemaaWordsMore
import Derived.Test.YtcdiobcldhiemaaKMoveViews2
namespace Go.Proofs.Ytcdiobcldhiemaa.Q
open Go.RowKit Go.Proofs.YtcdiobcldhiemaaW.PrintWords Go.Proofs.YtcdiobcldhiemaaW.PrintLast Go.Proofs.YtcdiobcldhiemaaW.PrintMore
attribute [local go_sem] max2_int min2_int max_two min_two max_three min_three max_four min_four   -- for this text's walks alone
set_option linter.unusedVariables false
set_option linter.unusedSimpArgs false
mutual
def gradineref20_All.l0 : Nat → List Int → List (List Int) → Int → Int → Option ((List (List Int)))
 | 0, _, _, _, _ => none
 | k + 1, x0, x3, x14, x15 => if x15 < x14 then (gradineref20_All.l1 k x0 x3 x15 ([] : List (List Int)) x14 x15 (x3.length : Int) 0) else (some x3)
def gradineref20_All.l1 : Nat → List Int → List (List Int) → Int → List (List Int) → Int → Int → Int → Int → Option ((List (List Int)))
 | 0, _, _, _, _, _, _, _, _ => none
 | k + 1, x0, x3, x4, x5, x14, x15, x19, x20 => if x20 < x19 then (if 0 ≤ x4 then (if x4 < (x0.length : Int) then (gradineref20_All.l2 k x0 x3 x4 x5 x20 x14 x15 x19 x20 (rd x0 x4) 0) else (none)) else (none)) else (gradineref20_All.l0 k x0 x5 x14 (wrap64 (x15 + 1)))
def gradineref20_All.l2 : Nat → List Int → List (List Int) → Int → List (List Int) → Int → Int → Int → Int → Int → Int → Int → Option ((List (List Int)))
 | 0, _, _, _, _, _, _, _, _, _, _, _ => none
 | k + 1, x0, x3, x4, x5, x6, x14, x15, x19, x20, x26, x27 => if x27 < x26 then ((some (([] : List Int) : List Int)).bind fun zf => (if 0 ≤ x6 then (if x6 < (x3.length : Int) then (if zf.length + (rd_L1 x3 x6).length < 17592186044416 then ((some (zf ++ (rd_L1 x3 x6) : List Int)).bind fun zd => (if zd.length < 17592186044416 then (if x5.length < 5864062014805 then (gradineref20_All.l2 k x0 x3 x4 (x5 ++ [(zd ++ [x27])]) x6 x14 x15 x19 x20 x26 (wrap64 (x27 + 1))) else (none)) else (none))) else (none)) else (none)) else (none))) else (gradineref20_All.l1 k x0 x3 x4 x5 x14 x15 x19 (wrap64 (x20 + 1)))
end
def gradineref20_All.f (k : Nat) (l0 : List Int) : Option ((List (List Int))) := (gradineref19_Check.f k l0).bind fun ze => (if ze = 0 then (gradineref20_All.l0 k l0 (([(([] : List Int))] : List (List Int))) (l0.length : Int) 0) else (some ([] : List (List Int))))
set_option maxHeartbeats 8000000 in
set_option maxRecDepth 100000 in
theorem gradineref20_All.calls (k : Nat) (A0 : Option Addr) (c0 : Nat) (l0 : List Int) (r : List (List Int)) (w : World) (hr0 : Kd.C (Kd.int .i64) w A0 l0.length l0) (hc0 : l0.length ≤ c0) (h : gradineref20_All.f k l0 = some r) :
  Calls Try.prog 48 #[.slice A0 l0.length c0] w fun e w' => ∃ v0_ : Value, e = .returned (v0_) ∧ Kd.N (Kd.slice 3 (Kd.int .i64)) 22 w' w.heap.size (fun k_ => (w.heap.size ≤ k_)) v0_ r ∧ Below w.heap.size w w' := by
 have HR0 := aM hr0
 have HC0 := aM hc0
 clear hr0 hc0
 have HB := aM (Below.refl w.heap.size w)
 have H : ((gradineref19_Check.f k l0).bind fun ze => (if ze = 0 then (gradineref20_All.l0 k l0 (([(([] : List Int))] : List (List Int))) (l0.length : Int) 0) else (some ([] : List (List Int))))) = some r := h
 clear h
 replace H := Option.bind_eq_some_iff.mp H
 obtain ⟨ze, A20, H⟩ := H
 try dsimp only at H
 have A2 := aM A20
 clear A20
 by_cases c3 : ze = 0
 rotate_left
 ·rw [if_neg c3] at H
  have z0 : (ze == 0) = false := beq_eq_false_iff_ne.mpr c3
  have z1 : (ze != 0) = true := bne_iff_ne.mpr c3
  obtain rfl := Option.some.inj H
  go_enter Try.func48, Try.ntmps48
  go_wp2_with (first | ((with_reducible refine gate_callee (f := 30) rfl ?_); refine goesL_ (some 9) rfl rfl Try.func30 (by kernel_rfl) rfl #[.slice A0 l0.length c0] rfl pA ?_; (with_reducible refine (gradineref19_Check.calls k _ _ l0 ze _ ?s1 ?s2 A2.out).mono ?_); (case s1 => exact pC HR0.out); (case s2 => exact HC0.out); rintro e w' ⟨rfl, ⟨nd, rfl⟩⟩; refine ⟨_, rfl, ?_⟩))
  go_ret
  exact ⟨_, pE, pN, qB HB⟩
 rw [if_pos c3] at H
 have z0 : (ze == 0) = true := beq_iff_eq.mpr c3
 have z1 : (ze != 0) = false := bne_eq_false_iff_eq.mpr c3
 clear c3
 obtain ⟨zj, zl⟩ : ∃ y_ : List Int, y_ = (([] : List Int)) := ⟨_, rfl⟩
 replace H : (gradineref20_All.l0 k l0 (([zj] : List (List Int))) (l0.length : Int) 0) = some r := pH zl H
 have zs := aM zl
 clear zl
 obtain ⟨z2, zm⟩ : ∃ y_ : List (List Int), y_ = (([zj] : List (List Int))) := ⟨_, rfl⟩
 replace H : (gradineref20_All.l0 k l0 z2 (l0.length : Int) 0) = some r := pH zm H
 have zt := aM zm
 clear zm
 have H' := aM H
 clear H
 go_enter Try.func48, Try.ntmps48
 go_wp2_with (first | ((with_reducible refine gate_callee (f := 30) rfl ?_); refine goesL_ (some 9) rfl rfl Try.func30 (by kernel_rfl) rfl #[.slice A0 l0.length c0] rfl pA ?_; (with_reducible refine (gradineref19_Check.calls k _ _ l0 ze _ ?s1 ?s2 A2.out).mono ?_); (case s1 => exact pC HR0.out); (case s2 => exact HC0.out); rintro e w' ⟨rfl, ⟨nd, rfl⟩⟩; refine ⟨_, rfl, ?_⟩) | ((with_reducible refine gate_dst (N := 11) rfl ?_); refine Kd.R_lit (Kd.int .i64) _ 3 ?hg (N := 11) ?hd (xs := ([] : List Int)) (inner := []) (ok := fun _ => True) (okp := fun _ => True) ?hr ?hp (fun _ hk => hk) trivial (Below.refl _ _) (Nat.le_refl _) (by simp) ?_; (case hd => rfl); (case hg => rfl); (case hr => first | (go_simp; done) | (go_simp; rfl)); (case hp => exact (Reps.none _ _)); intro v489 w4 ho5 hb hg_ hnew_; clear hg_ hnew_; (first | rw [← zs.out] at ho5 | (simp only [Int.reduceToNat] at ho5; rw [← zs.out] at ho5)); have zg := aM (Kd.R_lower (Kd.R_newM (M := fun k_ => (w.heap.size ≤ k_)) ho5 (below_size (qB HB)) (fun k_ h_ => h_)) (below_size (qB HB))); replace HB := bS (qB HB) hb; clear hb ho5; obtain ⟨Ao6, co6, eo6⟩ := Kd.R_slice zg.out; subst eo6) | ((with_reducible refine gate_dst (N := 12) rfl ?_); refine Kd.N_lit (Kd.slice 3 (Kd.int .i64)) _ 22 ?hg (N' := 12) ?hd (xs := ([zj] : List (List Int))) (inner := [.slice Ao6 zj.length co6]) (ok := (fun k_ => (w.heap.size ≤ k_))) (okp := (fun k_ => (w.heap.size ≤ k_))) ?hr ?hp (fun _ hk => hk) ((show ∀ k_, w4.heap.size ≤ k_ → (fun k_ => (w.heap.size ≤ k_)) k_ from fun k_ hk => (Nat.le_trans (below_size (qB HB)) hk)) _ (Nat.le_refl _)) (Below.refl _ _) (Nat.le_refl _) (by simp) ?_; (case hd => rfl); (case hg => rfl); (case hr => first | (go_simp; done) | (go_simp; rfl)); (case hp => exact (Reps.one (show Kd.FK (Kd.slice 3 (Kd.int .i64)) _ _ zj [.slice Ao6 zj.length co6] from (Kd.FK_slice_mk (Kd.R_reads' (Kd.R_mono (ok' := (fun k_ => (w.heap.size ≤ k_))) (zg.out) (fun k_ hk => hk.1))).2.1 (Kd.R_F (Kd.R_mono (ok' := (fun k_ => (w.heap.size ≤ k_))) (zg.out) (fun k_ hk => hk.1))))) (Reps.none _ _))); intro v492 w7 ho8 hb hg_ hnew_; clear hg_ hnew_; (first | rw [← zt.out] at ho8 | (simp only [Int.reduceToNat] at ho8; rw [← zt.out] at ho8)); have HO493 := aM (Kd.N_lower ho8 (below_size (qB HB))); replace HB := bS (qB HB) hb; clear zg; clear hb ho8))
 go_loopg [3, 15] k (fun kq v3 v15 w' => ∃ (x3_1 : List (List Int)) (x15_1 : Int), v15 = .int .i64 x15_1 ∧ Aside0 (gradineref20_All.l0 kq l0 x3_1 (l0.length : Int) x15_1 = some r) ∧ Aside0 (kq ≤ k) ∧ Aside0 (Kd.N (Kd.slice 3 (Kd.int .i64)) 22 w' w.heap.size (fun k_ => (w.heap.size ≤ k_)) v3 x3_1) ∧ Aside0 (Below w.heap.size w w'))
 case atStart => exact ⟨(z2), (0), (pF), H', ⟨Nat.le_refl _⟩, ⟨by (with_reducible repeat (first | apply Kd.N_alloc | apply Kd.N_drewN | apply Kd.N_drew)); exact HO493.out⟩, ⟨qB HB⟩⟩
 case round =>
  clear H'
  try clear z0
  try clear z1
  obtain ⟨x3_1, x15_1, rfl, HA, HK1, za, HB⟩ := hrel
  cases gk with
  | zero => exact absurd HA.out (by simp [gradineref20_All.l0])
  | succ k1 =>
   have H := HA.out
   clear HA
   simp only [gradineref20_All.l0] at H
   by_cases c9 : x15_1 < (l0.length : Int)
   rotate_left
   ·rw [if_neg c9] at H
    have z3 : decide (x15_1 < (l0.length : Int)) = false := decide_eq_false c9
    clear c9
    obtain rfl := Option.some.inj H
    go_wp2
    go_ret
    exact ⟨_, pE, by (with_reducible repeat (first | apply Kd.N_alloc | apply Kd.N_drewN | apply Kd.N_drew)); exact za.out, qB HB⟩
   rw [if_pos c9] at H
   have z3 : decide (x15_1 < (l0.length : Int)) = true := decide_eq_true c9
   clear c9
   have H' := aM H
   clear H
   obtain ⟨zr, zc, eo10⟩ := Kd.N_slice za.out
   subst eo10
   go_wp2
   go_loopg [5, 20] k1 (fun kq v5 v20 w' => ∃ (x5_2 : List (List Int)) (x20_2 : Int), v20 = .int .i64 x20_2 ∧ Aside0 (gradineref20_All.l1 kq l0 x3_1 x15_1 x5_2 (l0.length : Int) x15_1 (x3_1.length : Int) x20_2 = some r) ∧ Aside0 (kq ≤ k1) ∧ Aside0 (Kd.N (Kd.slice 3 (Kd.int .i64)) 22 w' w.heap.size (fun k_ => (w.heap.size ≤ k_) ∧ some k_ ≠ (v5 : Value).ownBlock) (.slice zr x3_1.length zc) x3_1) ∧ Aside0 (Kd.N (Kd.slice 3 (Kd.int .i64)) 22 w' w.heap.size (fun k_ => (w.heap.size ≤ k_) ∧ some k_ ≠ ((.slice zr x3_1.length zc) : Value).ownBlock) v5 x5_2) ∧ Aside0 (Below w.heap.size w w'))
   case atStart => exact ⟨(([] : List (List Int))), (0), (pF), H', ⟨Nat.le_refl _⟩, ⟨by (with_reducible repeat (first | apply Kd.N_alloc | apply Kd.N_drewN | apply Kd.N_drew)); exact Kd.N_mono za.out (fun _ hk => ⟨hk, (by simp [Value.ownBlock])⟩)⟩, ⟨pN⟩, ⟨qB HB⟩⟩
   case round =>
    clear H'
    try clear z3
    obtain ⟨x5_2, x20_2, rfl, HA, HK2, za, zb, HB⟩ := hrel
    cases gk with
    | zero => exact absurd HA.out (by simp [gradineref20_All.l1])
    | succ k2 =>
     have H := HA.out
     clear HA
     simp only [gradineref20_All.l1] at H
     by_cases c11 : x20_2 < (x3_1.length : Int)
     rotate_left
     ·rw [if_neg c11] at H
      have zu : decide (x20_2 < (x3_1.length : Int)) = false := decide_eq_false c11
      clear c11
      have H' := aM H
      clear H
      go_wp2
      go_roundg k2
      case measure => have := HK1.out; have := HK2.out; omega
      case rel => exact ⟨(x5_2), (wrap64 (x15_1 + 1)), (pF), H', ⟨by have := HK1.out; have := HK2.out; omega⟩, ⟨by (with_reducible repeat (first | apply Kd.N_alloc | apply Kd.N_drewN | apply Kd.N_drew)); exact Kd.N_mono zb.out (fun _ hk => hk.1)⟩, ⟨qB HB⟩⟩
     rw [if_pos c11] at H
     have zu : decide (x20_2 < (x3_1.length : Int)) = true := decide_eq_true c11
     clear c11
     by_cases c12 : 0 ≤ x15_1
     rotate_left
     ·rw [if_neg c12] at H
      exact absurd H (by simp)
     rw [if_pos c12] at H
     have c12b0 : decide (0 ≤ x15_1) = true := decide_eq_true c12
     clear c12
     by_cases c13 : x15_1 < (l0.length : Int)
     rotate_left
     ·rw [if_neg c13] at H
      exact absurd H (by simp)
     rw [if_pos c13] at H
     have c13b0 : decide (x15_1 < (l0.length : Int)) = true := decide_eq_true c13
     clear c13
     have H' := aM H
     clear H
     have p494 : 0 ≤ (x15_1 : Int) := of_decide_eq_true pD
     have q494 : x15_1 < (l0.length : Int) := of_decide_eq_true pD
     obtain ⟨ad494, e494, hx494_0⟩ := Kd.at_int HR0.out x15_1 p494 q494
     cases e494
     replace hx494_0 := (HB.out.cell (World.block_lt_of_cell? w _ hx494_0)).trans hx494_0
     replace p494 := eq_true p494
     replace q494 := eq_true q494
     go_wp2
     go_loopg [5, 27] k2 (fun kq v5 v27 w' => ∃ (x5_3 : List (List Int)) (x27_3 : Int), v27 = .int .i64 x27_3 ∧ Aside0 (gradineref20_All.l2 kq l0 x3_1 x15_1 x5_3 x20_2 (l0.length : Int) x15_1 (x3_1.length : Int) x20_2 (rd l0 x15_1) x27_3 = some r) ∧ Aside0 (kq ≤ k2) ∧ Aside0 (Kd.N (Kd.slice 3 (Kd.int .i64)) 22 w' w.heap.size (fun k_ => (w.heap.size ≤ k_) ∧ some k_ ≠ (v5 : Value).ownBlock) (.slice zr x3_1.length zc) x3_1) ∧ Aside0 (Kd.N (Kd.slice 3 (Kd.int .i64)) 22 w' w.heap.size (fun k_ => (w.heap.size ≤ k_) ∧ some k_ ≠ ((.slice zr x3_1.length zc) : Value).ownBlock) v5 x5_3) ∧ Aside0 (Below w.heap.size w w'))
     case atStart => exact ⟨(x5_2), (0), (pF), H', ⟨Nat.le_refl _⟩, ⟨by (with_reducible repeat (first | apply Kd.N_alloc | apply Kd.N_drewN | apply Kd.N_drew)); exact za.out⟩, ⟨by (with_reducible repeat (first | apply Kd.N_alloc | apply Kd.N_drewN | apply Kd.N_drew)); exact zb.out⟩, ⟨qB HB⟩⟩
     case round =>
      clear H'
      try clear zu
      try clear c12b0
      try clear c13b0
      try clear hx494_0
      try clear p494
      try clear q494
      obtain ⟨x5_3, x27_3, rfl, HA, HK3, za, zb, HB⟩ := hrel
      cases gk with
      | zero => exact absurd HA.out (by simp [gradineref20_All.l2])
      | succ k3 =>
       have H := HA.out
       clear HA
       simp only [gradineref20_All.l2] at H
       by_cases c14 : x27_3 < (rd l0 x15_1)
       rotate_left
       ·rw [if_neg c14] at H
        have c14b0 : decide (x27_3 < (rd l0 x15_1)) = false := decide_eq_false c14
        clear c14
        have H' := aM H
        clear H
        go_wp2
        go_roundg k3
        case measure => have := HK1.out; have := HK2.out; have := HK3.out; omega
        case rel => exact ⟨(x5_3), (wrap64 (x20_2 + 1)), (pF), H', ⟨by have := HK1.out; have := HK2.out; have := HK3.out; omega⟩, ⟨by (with_reducible repeat (first | apply Kd.N_alloc | apply Kd.N_drewN | apply Kd.N_drew)); exact za.out⟩, ⟨by (with_reducible repeat (first | apply Kd.N_alloc | apply Kd.N_drewN | apply Kd.N_drew)); exact zb.out⟩, ⟨qB HB⟩⟩
       rw [if_pos c14] at H
       have c14b0 : decide (x27_3 < (rd l0 x15_1)) = true := decide_eq_true c14
       clear c14
       obtain ⟨zf, zn⟩ : ∃ y_ : List Int, y_ = (([] : List Int)) := ⟨_, rfl⟩
       replace H : (if 0 ≤ x20_2 then (if x20_2 < (x3_1.length : Int) then (if zf.length + (rd_L1 x3_1 x20_2).length < 17592186044416 then ((some (zf ++ (rd_L1 x3_1 x20_2) : List Int)).bind fun zd => (if zd.length < 17592186044416 then (if x5_3.length < 5864062014805 then (gradineref20_All.l2 k3 l0 x3_1 x15_1 (x5_3 ++ [(zd ++ [x27_3])]) x20_2 (l0.length : Int) x15_1 (x3_1.length : Int) x20_2 (rd l0 x15_1) (wrap64 (x27_3 + 1))) else (none)) else (none))) else (none)) else (none)) else (none)) = some r := pH zn H
       have zv := aM zn
       clear zn
       by_cases c15 : 0 ≤ x20_2
       rotate_left
       ·rw [if_neg c15] at H
        exact absurd H (by simp)
       rw [if_pos c15] at H
       have c15b0 : decide (0 ≤ x20_2) = true := decide_eq_true c15
       clear c15
       by_cases c16 : x20_2 < (x3_1.length : Int)
       rotate_left
       ·rw [if_neg c16] at H
        exact absurd H (by simp)
       rw [if_pos c16] at H
       have c16b0 : decide (x20_2 < (x3_1.length : Int)) = true := decide_eq_true c16
       clear c16
       by_cases c17 : zf.length + (rd_L1 x3_1 x20_2).length < 17592186044416
       rotate_left
       ·rw [if_neg c17] at H
        exact absurd H (by simp)
       rw [if_pos c17] at H
       have LMc17 := aM c17
       clear c17
       obtain ⟨zd, zo⟩ : ∃ y_ : List Int, y_ = (zf ++ (rd_L1 x3_1 x20_2)) := ⟨_, rfl⟩
       replace H : (if zd.length < 17592186044416 then (if x5_3.length < 5864062014805 then (gradineref20_All.l2 k3 l0 x3_1 x15_1 (x5_3 ++ [(zd ++ [x27_3])]) x20_2 (l0.length : Int) x15_1 (x3_1.length : Int) x20_2 (rd l0 x15_1) (wrap64 (x27_3 + 1))) else (none)) else (none)) = some r := pH zo H
       have Ny499 := aM zo
       clear zo
       by_cases c18 : zd.length < 17592186044416
       rotate_left
       ·rw [if_neg c18] at H
        exact absurd H (by simp)
       rw [if_pos c18] at H
       have LMc18 := aM c18
       clear c18
       obtain ⟨zk, zp⟩ : ∃ y_ : List Int, y_ = (zd ++ [x27_3]) := ⟨_, rfl⟩
       replace H : (if x5_3.length < 5864062014805 then (gradineref20_All.l2 k3 l0 x3_1 x15_1 (x5_3 ++ [zk]) x20_2 (l0.length : Int) x15_1 (x3_1.length : Int) x20_2 (rd l0 x15_1) (wrap64 (x27_3 + 1))) else (none)) = some r := pH zp H
       have Ny502 := aM zp
       clear zp
       by_cases c19 : x5_3.length < 5864062014805
       rotate_left
       ·rw [if_neg c19] at H
        exact absurd H (by simp)
       rw [if_pos c19] at H
       have LMc19 := aM c19
       clear c19
       obtain ⟨z4, zq⟩ : ∃ y_ : List (List Int), y_ = (x5_3 ++ [zk]) := ⟨_, rfl⟩
       replace H : (gradineref20_All.l2 k3 l0 x3_1 x15_1 z4 x20_2 (l0.length : Int) x15_1 (x3_1.length : Int) x20_2 (rd l0 x15_1) (wrap64 (x27_3 + 1))) = some r := pH zq H
       have Ny505 := aM zq
       clear zq
       have H' := aM H
       clear H
       go_wp2_with (first | ((with_reducible refine gate_dst (N := 31) rfl ?_); refine Kd.R_lit (Kd.int .i64) _ 3 ?hg (N := 31) ?hd (xs := ([] : List Int)) (inner := []) (ok := fun _ => True) (okp := fun _ => True) ?hr ?hp (fun _ hk => hk) trivial (Below.refl _ _) (Nat.le_refl _) (by simp) ?_; (case hd => rfl); (case hg => rfl); (case hr => first | (go_simp; done) | (go_simp; rfl)); (case hp => exact (Reps.none _ _)); intro v496 w20 ho21 hb hg_ hnew_; clear hg_ hnew_; (first | rw [← zv.out] at ho21 | (simp only [Int.reduceToNat] at ho21; rw [← zv.out] at ho21)); replace za := aM (Kd.N_elder' (by (with_reducible repeat (first | apply Kd.N_alloc | apply Kd.N_drewN | apply Kd.N_drew)); exact za.out) (Kd.R_base ho21) hb); replace zb := aM (Kd.N_elder' (by (with_reducible repeat (first | apply Kd.N_alloc | apply Kd.N_drewN | apply Kd.N_drew)); exact zb.out) (Kd.R_base ho21) hb); have zw := aM (Kd.R_lower (Kd.R_newM (M := fun k_ => (w.heap.size ≤ k_)) ho21 (below_size (qB HB)) (fun k_ h_ => h_)) (below_size (qB HB))); replace HB := bS (qB HB) hb; clear hb ho21; have p498 : 0 ≤ (x20_2 : Int) := of_decide_eq_true pD; have q498 : x20_2 < (x3_1.length : Int) := of_decide_eq_true pD; obtain ⟨ad498, A498_0, c498_0, e498, hx498_0, hl498_0, hi498_0⟩ := at_L1 (Kd.N_reads' za.out).2.2 x20_2 p498 q498; cases e498; obtain ⟨ce498, hce498, hMe498, hcc498⟩ := Kd.N_get za.out [] x20_2 p498 (by first | exact q498 | exact of_decide_eq_true pD | (have e_ := (Kd.N_reads' za.out).1; omega)); obtain ⟨ua498_0, uc498_0, rfl, ul498_0, ge498_0⟩ := Kd.FK_slice_open hMe498; have hv498_0 := hcc498 0 _ rfl; rw [Nat.add_zero, show ((Kd.slice 3 (Kd.int .i64))).sz = 1 from rfl, Nat.mul_one] at hv498_0; replace hv498_0 := Option.some.inj (hv498_0.symm.trans hx498_0); injection hv498_0 with hva_ hvn_ hvc_; rw [hva_] at ge498_0; rw [hvc_] at ul498_0; have HL498_0 := aM (show Kd.V (Kd.int .i64) 3 _ w.heap.size _ _ (rd_L1 x3_1 x20_2) from Kd.V_mk ul498_0 ge498_0); clear hva_ hvn_ hvc_ ge498_0 ul498_0; clear hcc498 hce498; have zh := aM hi498_0; have HC498_0 := aM hl498_0; clear hi498_0 hl498_0; replace p498 := eq_true p498; replace q498 := eq_true q498) | ((with_reducible refine gate_builtin (b := .append) (xs := #[.tmp 31, .tmp 35]) rfl ?_); at_builtin; refine Kd.R_append_rows (Kd.int .i64) (w0 := w) w.heap.size rfl (.tmp 31) (.tmp 35) 22 3 (.int .i64 0) 8 rfl Try.underlying22 info3 rfl (by decide) (by omega) v496 zf (rd_L1 x3_1 x20_2) _ _ _ (fun k_ => (w.heap.size ≤ k_)) (fun _ => False) rfl rfl ?aO ?aR (fun _ _ h => h) (fun _ h => h.elim) ?aF ?aB ?aS ?aL ?_; (case aR => repeat (first | exact (by repeat (first | (with_reducible exact zh.out) | (with_reducible refine Kd.C_alloc ?_ _) | (with_reducible refine Kd.C_drewN ?_ _) | (with_reducible refine Kd.C_drew ?_) | exact zh.out)) | (with_reducible refine Kd.C_alloc ?_ _) | (with_reducible refine Kd.C_drewN ?_ _) | (with_reducible refine Kd.C_drew ?_))); (case aB => exact (qB HB)); (case aF => exact (fun k_ hk => (Nat.le_trans (below_size (qB HB)) hk))); (case aO => exact (by (with_reducible repeat (first | apply rA | apply rN | apply rD)); exact Kd.R_mono zw.out (fun _ hk => hk.1))); (case aS => exact (below_size (qB HB))); (case aL => have := LMc17.out; omega); intro v500 w22 ho hb hg hat; rw [← Ny499.out] at ho; replace za := aM (Kd.N_afterv (ok := (fun k_ => (w.heap.size ≤ k_) ∧ some k_ ≠ (u5 : Value).ownBlock)) (by (with_reducible repeat (first | apply Kd.N_alloc | apply Kd.N_drewN | apply Kd.N_drew)); exact za.out) hg hat); replace zb := aM (Kd.N_afterv (ok := (fun k_ => (w.heap.size ≤ k_) ∧ some k_ ≠ (.slice (some ad498) x3_1.length zc : Value).ownBlock)) (by (with_reducible repeat (first | apply Kd.N_alloc | apply Kd.N_drewN | apply Kd.N_drew)); exact zb.out) hg hat); replace HL498_0 := aM (Kd.V_afterv (ok := (fun k_ => (w.heap.size ≤ k_) ∧ some k_ ≠ (.slice (some ad498) x3_1.length zc : Value).ownBlock ∧ some k_ ≠ (u5 : Value).ownBlock)) (by (with_reducible repeat (first | apply Kd.V_alloc | apply Kd.V_drewN | apply Kd.V_drew)); exact Kd.V_mono HL498_0.out (fun _ hk => ⟨⟨hk.1.1.1, ⟨hk.2, hk.1.1.2⟩⟩, hk.1.2⟩)) hg hat); replace HB := aM (hb); have zx := aM (ho); clear zw; clear ho hb hg hat) | ((with_reducible refine gate_builtin (b := .append) (xs := #[.tmp 36, .tmp 38]) rfl ?_); at_builtin; refine Kd.R_append (Kd.int .i64) (w0 := w) w.heap.size rfl (.tmp 36) (.tmp 38) 22 3 (.int .i64 0) 8 rfl Try.underlying22 info3 rfl (by decide) (by omega) v500 zd x27_3 [.int .i64 x27_3] (fun k_ => (w.heap.size ≤ k_)) (fun _ => False) rfl rfl ?aP (fun _ hk => hk.elim) ?aF ?aO ?aB ?aS ?aL ?_; (case aP => exact rfl); (case aB => exact (qB HB)); (case aF => exact (fun k_ hk => (Nat.le_trans (below_size (qB HB)) hk))); (case aO => exact (pR zx.out)); (case aS => exact (below_size (qB HB))); (case aL => have := LMc18.out; omega); intro v503 w23 ho hb hg hat; rw [← Ny502.out] at ho; replace za := aM (Kd.N_afterv (ok := (fun k_ => (w.heap.size ≤ k_) ∧ some k_ ≠ (u5 : Value).ownBlock)) (by (with_reducible repeat (first | apply Kd.N_alloc | apply Kd.N_drewN | apply Kd.N_drew)); exact za.out) hg hat); replace zb := aM (Kd.N_afterv (ok := (fun k_ => (w.heap.size ≤ k_) ∧ some k_ ≠ (.slice (some ad498) x3_1.length zc : Value).ownBlock)) (by (with_reducible repeat (first | apply Kd.N_alloc | apply Kd.N_drewN | apply Kd.N_drew)); exact zb.out) hg hat); replace HL498_0 := aM (Kd.V_afterv (ok := (fun k_ => (w.heap.size ≤ k_) ∧ some k_ ≠ (.slice (some ad498) x3_1.length zc : Value).ownBlock ∧ some k_ ≠ (u5 : Value).ownBlock)) (pV HL498_0.out) hg hat); replace HB := aM (hb); have zi := aM (ho); clear zx; clear ho hb hg hat; obtain ⟨zy, zz, eo25⟩ := Kd.R_slice zi.out; subst eo25) | ((with_reducible refine gate_builtin (b := .append) (xs := #[.tmp 30, .tmp 40]) rfl ?_); at_builtin; refine Kd.N_append (Kd.slice 3 (Kd.int .i64)) (w0 := w) w.heap.size rfl (.tmp 30) (.tmp 40) 25 22 (.slice none 0 0) 24 rfl Try.underlying25 info22 rfl (by decide) (by omega) u5 x5_3 zk [.slice zy zk.length zz] (fun k_ => (w.heap.size ≤ k_) ∧ some k_ ≠ (.slice (some ad498) x3_1.length zc : Value).ownBlock) (fun k_ => ((fun k_ => (w.heap.size ≤ k_) ∧ some k_ ≠ (.slice (some ad498) x3_1.length zc : Value).ownBlock)) k_ ∧ some k_ ≠ (u5 : Value).ownBlock) rfl rfl ?aP (fun _ hk => hk) ?aF ?aO ?aB ?aS ?aL ?_; (case aP => exact (Kd.FK_slice_mk (Kd.R_reads' (Kd.R_mono (ok' := (fun k_ => ((fun k_ => (w.heap.size ≤ k_) ∧ some k_ ≠ (.slice (some ad498) x3_1.length zc : Value).ownBlock)) k_ ∧ some k_ ≠ (u5 : Value).ownBlock)) (Kd.R_apart' (Kd.R_apart' (zi.out) (Kd.N_typed za.out) (by decide)) (Kd.N_typed zb.out) (by decide)) (fun k_ hk => ⟨⟨hk.1.1, hk.1.2⟩, hk.2⟩))).2.1 (Kd.R_F (Kd.R_mono (ok' := (fun k_ => ((fun k_ => (w.heap.size ≤ k_) ∧ some k_ ≠ (.slice (some ad498) x3_1.length zc : Value).ownBlock)) k_ ∧ some k_ ≠ (u5 : Value).ownBlock)) (Kd.R_apart' (Kd.R_apart' (zi.out) (Kd.N_typed za.out) (by decide)) (Kd.N_typed zb.out) (by decide)) (fun k_ hk => ⟨⟨hk.1.1, hk.1.2⟩, hk.2⟩))))); (case aB => exact (qB HB)); (case aF => exact (fun k_ hk => ⟨(Nat.le_trans (below_size (qB HB)) hk), Kd.fresh' (Kd.N_lt (by (with_reducible repeat (first | apply Kd.N_alloc | apply Kd.N_drewN | apply Kd.N_drew)); exact za.out)) k_ hk⟩)); (case aO => exact (by (with_reducible repeat (first | apply Kd.N_alloc | apply Kd.N_drewN | apply Kd.N_drew)); exact Kd.N_mono zb.out (fun _ hk => ⟨hk.1.1, hk.1.2⟩))); (case aS => exact (below_size (qB HB))); (case aL => have := LMc19.out; omega); intro v506 w24 ho hb hg hat; rw [← Ny505.out] at ho; replace za := aM (Kd.N_afterv (ok := (fun k_ => (w.heap.size ≤ k_) ∧ some k_ ≠ (.slice zy zk.length zz : Value).ownBlock)) (by (with_reducible repeat (first | apply Kd.N_alloc | apply Kd.N_drewN | apply Kd.N_drew)); exact Kd.N_mono za.out (fun _ hk => ⟨⟨hk.1.1, hk.2⟩, hk.1.2⟩)) hg hat); replace HL498_0 := aM (Kd.V_afterv (ok := (fun k_ => (w.heap.size ≤ k_) ∧ some k_ ≠ (.slice (some ad498) x3_1.length zc : Value).ownBlock ∧ some k_ ≠ (.slice zy zk.length zz : Value).ownBlock)) (by (with_reducible repeat (first | apply Kd.V_alloc | apply Kd.V_drewN | apply Kd.V_drew)); exact Kd.V_mono HL498_0.out (fun _ hk => ⟨⟨hk.1.1, ⟨hk.1.2.1, hk.2⟩⟩, hk.1.2.2⟩)) hg hat); replace HB := aM (hb); have HO507 := aM (ho); clear zb zi; clear ho hb hg hat))
       go_roundg k3
       case measure => have := HK1.out; have := HK2.out; have := HK3.out; omega
       case rel => exact ⟨(z4), (wrap64 (x27_3 + 1)), (pF), H', ⟨by have := HK1.out; have := HK2.out; have := HK3.out; omega⟩, ⟨by (with_reducible repeat (first | apply Kd.N_alloc | apply Kd.N_drewN | apply Kd.N_drew)); exact Kd.N_mono za.out (fun _ hk => ⟨hk.1.1, hk.2⟩)⟩, ⟨by (with_reducible repeat (first | apply Kd.N_alloc | apply Kd.N_drewN | apply Kd.N_drew)); exact HO507.out⟩, ⟨qB HB⟩⟩
mutual
def gradineref22_Cells.j0 : Nat → Int → Bool → Int → List Int → List Int → Option (List Int)
 | 0, _, _, _, _, _ => none
 | k + 1, x1, x38, zg, ze, zd => if x38 = true then (some ([] : List Int)) else (gradineref22_Cells.l0 k x1 (ze.length : Int) 0 zg ze zd)
def gradineref22_Cells.l0 : Nat → Int → Int → Int → Int → List Int → List Int → Option (List Int)
 | 0, _, _, _, _, _, _ => none
 | k + 1, x1, x41, x42, zg, ze, zd => if x42 < x41 then (if 0 ≤ x42 then (if x42 < (ze.length : Int) then (if (rd ze x42) > 1 then (if x42 < (zd.length : Int) then (if (rd zd x42) ≥ x1 then (some ([] : List Int)) else (if (rd zd x42) ≤ (wrap64 (-x1)) then (some ([] : List Int)) else (gradineref22_Cells.l0 k x1 x41 (wrap64 (x42 + 1)) zg ze zd))) else (none)) else (gradineref22_Cells.l0 k x1 x41 (wrap64 (x42 + 1)) zg ze zd)) else (none)) else (none)) else ((gradineref20_All.f k ze).bind fun zc => (gradineref22_Cells.l1 k x1 zc ([] : List Int) (zc.length : Int) 0 zg ze zd))
def gradineref22_Cells.l1 : Nat → Int → List (List Int) → List Int → Int → Int → Int → List Int → List Int → Option (List Int)
 | 0, _, _, _, _, _, _, _, _ => none
 | k + 1, x1, x6, x7, x75, x76, zg, ze, zd => if x76 < x75 then (if 0 ≤ x76 then (if x76 < (x6.length : Int) then (gradineref22_Cells.l2 k x1 x6 x7 x76 zg x75 x76 ((rd_L1 x6 x76).length : Int) 0 zg ze zd) else (none)) else (none)) else (some x7)
def gradineref22_Cells.l2 : Nat → Int → List (List Int) → List Int → Int → Int → Int → Int → Int → Int → Int → List Int → List Int → Option (List Int)
 | 0, _, _, _, _, _, _, _, _, _, _, _, _ => none
 | k + 1, x1, x6, x7, x8, x9, x75, x76, x85, x86, zg, ze, zd => if x86 < x85 then (if 0 ≤ x8 then (if x8 < (x6.length : Int) then (if 0 ≤ x86 then (if x86 < ((rd_L1 x6 x8).length : Int) then (if (rd (rd_L1 x6 x8) x86) > 0 then (if x86 < (zd.length : Int) then (gradineref22_Cells.l2 k x1 x6 x7 x8 (wrap64 (x9 + (wrap64 ((rd (rd_L1 x6 x8) x86) * (rd zd x86))))) x75 x76 x85 (wrap64 (x86 + 1)) zg ze zd) else (none)) else (gradineref22_Cells.l2 k x1 x6 x7 x8 x9 x75 x76 x85 (wrap64 (x86 + 1)) zg ze zd)) else (none)) else (none)) else (none)) else (none)) else (if x9 < 0 then (some ([] : List Int)) else (if x9 ≥ x1 then (some ([] : List Int)) else (if x7.length < 17592186044416 then (gradineref22_Cells.l1 k x1 x6 (x7 ++ [x9]) x75 (wrap64 (x76 + 1)) zg ze zd) else (none))))
end
def gradineref22_Cells.f (k : Nat) (a0_0 : Int) (l0_1 : List Int) (l0_2 : List Int) (a1 : Int) : Option (List Int) := (gradineref19_Check.f k l0_1).bind fun zj => (if zj = 0 then (if (l0_2.length : Int) = (l0_1.length : Int) then (if a1 > 64 then (gradineref22_Cells.j0 k a1 true a0_0 l0_1 l0_2) else (if a0_0 < 0 then (gradineref22_Cells.j0 k a1 true a0_0 l0_1 l0_2) else (gradineref22_Cells.j0 k a1 (decide (a0_0 ≥ a1)) a0_0 l0_1 l0_2))) else (gradineref22_Cells.j0 k a1 true a0_0 l0_1 l0_2)) else (gradineref22_Cells.j0 k a1 true a0_0 l0_1 l0_2))
set_option maxHeartbeats 8000000 in
set_option maxRecDepth 100000 in
theorem gradineref22_Cells.calls (k : Nat) (a0_0 : Int) (A0_1 : Option Addr) (c0_1 : Nat) (l0_1 : List Int) (A0_2 : Option Addr) (c0_2 : Nat) (l0_2 : List Int) (a1 : Int) (r : List Int) (w : World) (hr0_1 : Kd.C (Kd.int .i64) w A0_1 l0_1.length l0_1) (hc0_1 : l0_1.length ≤ c0_1) (hr0_2 : Kd.C (Kd.int .i64) w A0_2 l0_2.length l0_2) (hc0_2 : l0_2.length ≤ c0_2) (h : gradineref22_Cells.f k a0_0 l0_1 l0_2 a1 = some r) :
  Calls Try.prog 19 #[.agg #[.int .i64 a0_0, .slice A0_1 l0_1.length c0_1, .slice A0_2 l0_2.length c0_2], .int .i64 a1] w fun e w' => ∃ v0_ : Value, e = .returned (v0_) ∧ Kd.R (Kd.int .i64) 3 w' w.heap.size (fun _ => True) v0_ r ∧ Below w.heap.size w w' := by
 have hu44 := Try.underlying44
 have zf := aM hr0_1
 have zi := aM hc0_1
 clear hr0_1 hc0_1
 have zo := aM hr0_2
 have HC0_2 := aM hc0_2
 clear hr0_2 hc0_2
 have HB := aM (Below.refl w.heap.size w)
 have H : ((gradineref19_Check.f k l0_1).bind fun zj => (if zj = 0 then (if (l0_2.length : Int) = (l0_1.length : Int) then (if a1 > 64 then (gradineref22_Cells.j0 k a1 true a0_0 l0_1 l0_2) else (if a0_0 < 0 then (gradineref22_Cells.j0 k a1 true a0_0 l0_1 l0_2) else (gradineref22_Cells.j0 k a1 (decide (a0_0 ≥ a1)) a0_0 l0_1 l0_2))) else (gradineref22_Cells.j0 k a1 true a0_0 l0_1 l0_2)) else (gradineref22_Cells.j0 k a1 true a0_0 l0_1 l0_2))) = some r := h
 clear h
 have HC3 := aM H
 clear H
 go_enter Try.func19, Try.ntmps19
 go_upto_region 1 with (first | ((with_reducible refine gate_dst (N := 2) rfl ?_); (try (refine gate_guard (by rfl) ?_; dsimp only)); refine box_event ?hg (N := 2) ?hd (cs := #[.int .i64 a0_0, .slice A0_1 l0_1.length c0_1, .slice A0_2 l0_2.length c0_2]) (t := 44) ?hr ?_; (case hd => rfl); (case hg => rfl); (case hr => first | (go_simp; done) | (go_simp; rfl)); intro zh hg w4 hbox hb; have za := aM (hbox); have zq := gE (w := w) hg (qB HB); have zb := zq; replace HB := bS (qB HB) hb; clear hb hbox hg))
 repeat (go_quiet (first | ((with_reducible refine gate_dst (N := 2) rfl ?_); (try (refine gate_guard (by rfl) ?_; dsimp only)); refine box_event ?hg (N := 2) ?hd (cs := #[.int .i64 a0_0, .slice A0_1 l0_1.length c0_1, .slice A0_2 l0_2.length c0_2]) (t := 44) ?hr ?_; (case hd => rfl); (case hg => rfl); (case hr => first | (go_simp; done) | (go_simp; rfl)); intro zh hg w4 hbox hb; have za := aM (hbox); have zq := gE (w := w) hg (qB HB); have zb := zq; replace HB := bS (qB HB) hb; clear hb hbox hg)); go_upto_region 1 with (first | ((with_reducible refine gate_dst (N := 2) rfl ?_); (try (refine gate_guard (by rfl) ?_; dsimp only)); refine box_event ?hg (N := 2) ?hd (cs := #[.int .i64 a0_0, .slice A0_1 l0_1.length c0_1, .slice A0_2 l0_2.length c0_2]) (t := 44) ?hr ?_; (case hd => rfl); (case hg => rfl); (case hr => first | (go_simp; done) | (go_simp; rfl)); intro zh hg w4 hbox hb; have za := aM (hbox); have zq := gE (w := w) hg (qB HB); have zb := zq; replace HB := bS (qB HB) hb; clear hb hbox hg)))
 (try simp only [Act.put, sP])
 go_cut [38] (fun v38 wc => ∃ (kq : Nat) (x38_2 : Bool), v38 = .bool x38_2 ∧ Aside0 (gradineref22_Cells.j0 kq a1 x38_2 a0_0 l0_1 l0_2 = some r) ∧ Aside0 (kq ≤ k) ∧ Aside0 (wc.heap[zh]? = some (.cells #[.int .i64 a0_0, (.slice A0_1 l0_1.length c0_1), (.slice A0_2 l0_2.length c0_2)] 44 (0, 0))) ∧ Aside0 (Below w.heap.size w wc))
 case first =>
  have H := HC3.out
  clear HC3
  replace H := Option.bind_eq_some_iff.mp H
  obtain ⟨zj, A50, H⟩ := H
  try dsimp only at H
  have A5 := aM A50
  clear A50
  by_cases c6 : zj = 0
  rotate_left
  ·rw [if_neg c6] at H
   have zs : (zj == 0) = false := beq_eq_false_iff_ne.mpr c6
   have c6b1 : (zj != 0) = true := bne_iff_ne.mpr c6
   (first | rw [zs] | (simp only [i64_w, i32_w]; rw [zs]) | skip)
   have H' := aM H
   clear H
   obtain ⟨hcz14_0, hcz14_1, hcz14_2, hfz14_0, hfz14_1, hfz14_2⟩ := blk3 za.out
   go_wp2_with (first | (go_at_call 30; (with_reducible refine (gradineref19_Check.calls k _ _ l0_1 zj _ ?s1 ?s2 A5.out).mono ?_); (case s1 => exact sC zf HB); (case s2 => exact zi.out); rintro e w' ⟨rfl, ⟨nd, rfl⟩⟩; (try first | exact ⟨rfl, _, World.drewN_drewN _ _ _⟩ | exact ⟨rfl, _, Eq.trans (World.drewN_drewN _ _ _) (congrArg (World.drewN _) (Nat.add_assoc _ _ _))⟩)))
   repeat (go_quiet (first | (go_at_call 30; (with_reducible refine (gradineref19_Check.calls k _ _ l0_1 zj _ ?s1 ?s2 A5.out).mono ?_); (case s1 => exact sC zf HB); (case s2 => exact zi.out); rintro e w' ⟨rfl, ⟨nd, rfl⟩⟩; (try first | exact ⟨rfl, _, World.drewN_drewN _ _ _⟩ | exact ⟨rfl, _, Eq.trans (World.drewN_drewN _ _ _) (congrArg (World.drewN _) (Nat.add_assoc _ _ _))⟩))); try go_wp2_with (first | (go_at_call 30; (with_reducible refine (gradineref19_Check.calls k _ _ l0_1 zj _ ?s1 ?s2 A5.out).mono ?_); (case s1 => exact sC zf HB); (case s2 => exact zi.out); rintro e w' ⟨rfl, ⟨nd, rfl⟩⟩; (try first | exact ⟨rfl, _, World.drewN_drewN _ _ _⟩ | exact ⟨rfl, _, Eq.trans (World.drewN_drewN _ _ _) (congrArg (World.drewN _) (Nat.add_assoc _ _ _))⟩))))
   go_meet
   case rel => exact ⟨_, (true), (pF), H', ⟨by first | omega | exact Nat.le_refl _⟩, ⟨pK za.out⟩, ⟨qB1 HB zb⟩⟩
  rw [if_pos c6] at H
  have zs : (zj == 0) = true := beq_iff_eq.mpr c6
  have c6b1 : (zj != 0) = false := bne_eq_false_iff_eq.mpr c6
  clear c6
  (first | rw [zs] | (simp only [i64_w, i32_w]; rw [zs]) | skip)
  by_cases c7 : (l0_2.length : Int) = (l0_1.length : Int)
  rotate_left
  ·rw [if_neg c7] at H
   have c7b0 : ((l0_2.length : Int) == (l0_1.length : Int)) = false := beq_eq_false_iff_ne.mpr c7
   have c7b1 : ((l0_2.length : Int) != (l0_1.length : Int)) = true := bne_iff_ne.mpr c7
   have c7b2 : (l0_2.length == l0_1.length) = false := by first | simpa using c7 | (simp at c7 ⊢; omega)
   have H' := aM H
   clear H
   obtain ⟨hcz13_0, hcz13_1, hcz13_2, hfz13_0, hfz13_1, hfz13_2⟩ := blk3 za.out
   go_wp2_with (first | (go_at_call 30; (with_reducible refine (gradineref19_Check.calls k _ _ l0_1 zj _ ?s1 ?s2 A5.out).mono ?_); (case s1 => exact sC zf HB); (case s2 => exact zi.out); rintro e w' ⟨rfl, ⟨nd, rfl⟩⟩; (try first | exact ⟨rfl, _, World.drewN_drewN _ _ _⟩ | exact ⟨rfl, _, Eq.trans (World.drewN_drewN _ _ _) (congrArg (World.drewN _) (Nat.add_assoc _ _ _))⟩)))
   repeat (go_quiet (first | (go_at_call 30; (with_reducible refine (gradineref19_Check.calls k _ _ l0_1 zj _ ?s1 ?s2 A5.out).mono ?_); (case s1 => exact sC zf HB); (case s2 => exact zi.out); rintro e w' ⟨rfl, ⟨nd, rfl⟩⟩; (try first | exact ⟨rfl, _, World.drewN_drewN _ _ _⟩ | exact ⟨rfl, _, Eq.trans (World.drewN_drewN _ _ _) (congrArg (World.drewN _) (Nat.add_assoc _ _ _))⟩))); try go_wp2_with (first | (go_at_call 30; (with_reducible refine (gradineref19_Check.calls k _ _ l0_1 zj _ ?s1 ?s2 A5.out).mono ?_); (case s1 => exact sC zf HB); (case s2 => exact zi.out); rintro e w' ⟨rfl, ⟨nd, rfl⟩⟩; (try first | exact ⟨rfl, _, World.drewN_drewN _ _ _⟩ | exact ⟨rfl, _, Eq.trans (World.drewN_drewN _ _ _) (congrArg (World.drewN _) (Nat.add_assoc _ _ _))⟩))))
   go_meet
   case rel => exact ⟨_, (true), (pF), H', ⟨by first | omega | exact Nat.le_refl _⟩, ⟨pK za.out⟩, ⟨qB1 HB zb⟩⟩
  rw [if_pos c7] at H
  have c7b0 : ((l0_2.length : Int) == (l0_1.length : Int)) = true := beq_iff_eq.mpr c7
  have c7b1 : ((l0_2.length : Int) != (l0_1.length : Int)) = false := bne_eq_false_iff_eq.mpr c7
  have c7b2 : (l0_2.length == l0_1.length) = true := by first | simpa using c7 | (simp at c7 ⊢; omega)
  clear c7
  by_cases c8 : a1 > 64
  ·rw [if_pos c8] at H
   have c8b0 : decide (64 < a1) = true := decide_eq_true c8
   clear c8
   have H' := aM H
   clear H
   obtain ⟨hcz9_0, hcz9_1, hcz9_2, hfz9_0, hfz9_1, hfz9_2⟩ := blk3 za.out
   go_wp2_with (first | (go_at_call 30; (with_reducible refine (gradineref19_Check.calls k _ _ l0_1 zj _ ?s1 ?s2 A5.out).mono ?_); (case s1 => exact sC zf HB); (case s2 => exact zi.out); rintro e w' ⟨rfl, ⟨nd, rfl⟩⟩; (try first | exact ⟨rfl, _, World.drewN_drewN _ _ _⟩ | exact ⟨rfl, _, Eq.trans (World.drewN_drewN _ _ _) (congrArg (World.drewN _) (Nat.add_assoc _ _ _))⟩)))
   repeat (go_quiet (first | (go_at_call 30; (with_reducible refine (gradineref19_Check.calls k _ _ l0_1 zj _ ?s1 ?s2 A5.out).mono ?_); (case s1 => exact sC zf HB); (case s2 => exact zi.out); rintro e w' ⟨rfl, ⟨nd, rfl⟩⟩; (try first | exact ⟨rfl, _, World.drewN_drewN _ _ _⟩ | exact ⟨rfl, _, Eq.trans (World.drewN_drewN _ _ _) (congrArg (World.drewN _) (Nat.add_assoc _ _ _))⟩))); try go_wp2_with (first | (go_at_call 30; (with_reducible refine (gradineref19_Check.calls k _ _ l0_1 zj _ ?s1 ?s2 A5.out).mono ?_); (case s1 => exact sC zf HB); (case s2 => exact zi.out); rintro e w' ⟨rfl, ⟨nd, rfl⟩⟩; (try first | exact ⟨rfl, _, World.drewN_drewN _ _ _⟩ | exact ⟨rfl, _, Eq.trans (World.drewN_drewN _ _ _) (congrArg (World.drewN _) (Nat.add_assoc _ _ _))⟩))))
   go_meet
   case rel => exact ⟨_, (true), (pF), H', ⟨by first | omega | exact Nat.le_refl _⟩, ⟨pK za.out⟩, ⟨qB1 HB zb⟩⟩
  rw [if_neg c8] at H
  have c8b0 : decide (64 < a1) = false := decide_eq_false c8
  clear c8
  by_cases c10 : a0_0 < 0
  ·rw [if_pos c10] at H
   have c10b0 : decide (a0_0 < 0) = true := decide_eq_true c10
   clear c10
   have H' := aM H
   clear H
   obtain ⟨hcz11_0, hcz11_1, hcz11_2, hfz11_0, hfz11_1, hfz11_2⟩ := blk3 za.out
   go_wp2_with (first | (go_at_call 30; (with_reducible refine (gradineref19_Check.calls k _ _ l0_1 zj _ ?s1 ?s2 A5.out).mono ?_); (case s1 => exact sC zf HB); (case s2 => exact zi.out); rintro e w' ⟨rfl, ⟨nd, rfl⟩⟩; (try first | exact ⟨rfl, _, World.drewN_drewN _ _ _⟩ | exact ⟨rfl, _, Eq.trans (World.drewN_drewN _ _ _) (congrArg (World.drewN _) (Nat.add_assoc _ _ _))⟩)))
   repeat (go_quiet (first | (go_at_call 30; (with_reducible refine (gradineref19_Check.calls k _ _ l0_1 zj _ ?s1 ?s2 A5.out).mono ?_); (case s1 => exact sC zf HB); (case s2 => exact zi.out); rintro e w' ⟨rfl, ⟨nd, rfl⟩⟩; (try first | exact ⟨rfl, _, World.drewN_drewN _ _ _⟩ | exact ⟨rfl, _, Eq.trans (World.drewN_drewN _ _ _) (congrArg (World.drewN _) (Nat.add_assoc _ _ _))⟩))); try go_wp2_with (first | (go_at_call 30; (with_reducible refine (gradineref19_Check.calls k _ _ l0_1 zj _ ?s1 ?s2 A5.out).mono ?_); (case s1 => exact sC zf HB); (case s2 => exact zi.out); rintro e w' ⟨rfl, ⟨nd, rfl⟩⟩; (try first | exact ⟨rfl, _, World.drewN_drewN _ _ _⟩ | exact ⟨rfl, _, Eq.trans (World.drewN_drewN _ _ _) (congrArg (World.drewN _) (Nat.add_assoc _ _ _))⟩))))
   go_meet
   case rel => exact ⟨_, (true), (pF), H', ⟨by first | omega | exact Nat.le_refl _⟩, ⟨pK za.out⟩, ⟨qB1 HB zb⟩⟩
  rw [if_neg c10] at H
  have c10b0 : decide (a0_0 < 0) = false := decide_eq_false c10
  clear c10
  have H' := aM H
  clear H
  obtain ⟨hcz12_0, hcz12_1, hcz12_2, hfz12_0, hfz12_1, hfz12_2⟩ := blk3 za.out
  go_wp2_with (first | (go_at_call 30; (with_reducible refine (gradineref19_Check.calls k _ _ l0_1 zj _ ?s1 ?s2 A5.out).mono ?_); (case s1 => exact sC zf HB); (case s2 => exact zi.out); rintro e w' ⟨rfl, ⟨nd, rfl⟩⟩; (try first | exact ⟨rfl, _, World.drewN_drewN _ _ _⟩ | exact ⟨rfl, _, Eq.trans (World.drewN_drewN _ _ _) (congrArg (World.drewN _) (Nat.add_assoc _ _ _))⟩)))
  repeat (go_quiet (first | (go_at_call 30; (with_reducible refine (gradineref19_Check.calls k _ _ l0_1 zj _ ?s1 ?s2 A5.out).mono ?_); (case s1 => exact sC zf HB); (case s2 => exact zi.out); rintro e w' ⟨rfl, ⟨nd, rfl⟩⟩; (try first | exact ⟨rfl, _, World.drewN_drewN _ _ _⟩ | exact ⟨rfl, _, Eq.trans (World.drewN_drewN _ _ _) (congrArg (World.drewN _) (Nat.add_assoc _ _ _))⟩))); try go_wp2_with (first | (go_at_call 30; (with_reducible refine (gradineref19_Check.calls k _ _ l0_1 zj _ ?s1 ?s2 A5.out).mono ?_); (case s1 => exact sC zf HB); (case s2 => exact zi.out); rintro e w' ⟨rfl, ⟨nd, rfl⟩⟩; (try first | exact ⟨rfl, _, World.drewN_drewN _ _ _⟩ | exact ⟨rfl, _, Eq.trans (World.drewN_drewN _ _ _) (congrArg (World.drewN _) (Nat.add_assoc _ _ _))⟩))))
  go_meet
  case rel => exact ⟨_, (decide (a0_0 ≥ a1)), (pF), H', ⟨by first | omega | exact Nat.le_refl _⟩, ⟨pK za.out⟩, ⟨qB1 HB zb⟩⟩
 case rest =>
  clear HC3
  obtain ⟨kq, x38_2, rfl, HA, HJ2, za, HB⟩ := hcut
  cases kq with
  | zero => exact absurd HA.out (by simp [gradineref22_Cells.j0])
  | succ kj2 =>
   have H := HA.out
   clear HA
   simp only [gradineref22_Cells.j0] at H
   by_cases c15 : x38_2 = true
   ·subst c15
    rw [if_pos rfl] at H
    obtain rfl := Option.some.inj H
    go_wp2
    repeat (go_quiet (fail); try go_wp2)
    go_ret
    exact ⟨_, pE, pN, qB1 HB zb⟩
   replace c15 := Bool.eq_false_iff.mpr c15
   subst c15
   rw [if_neg (show ¬ (false = true) by decide)] at H
   have H' := aM H
   clear H
   obtain ⟨hcz16_0, hcz16_1, hcz16_2, hfz16_0, hfz16_1, hfz16_2⟩ := blk3 za.out
   go_wp2
   repeat (go_quiet (fail); try go_wp2)
   go_loopg [42] kj2 (fun kq v42 w' => ∃ (x42_2 : Int), v42 = .int .i64 x42_2 ∧ Aside0 (gradineref22_Cells.l0 kq a1 (l0_1.length : Int) x42_2 a0_0 l0_1 l0_2 = some r) ∧ Aside0 (kq ≤ kj2) ∧ Aside0 (w'.heap[zh]? = some (.cells #[.int .i64 a0_0, (.slice A0_1 l0_1.length c0_1), (.slice A0_2 l0_2.length c0_2)] 44 (0, 0))) ∧ Aside0 (Below w.heap.size w w'))
   case atStart => exact ⟨(0), (pF), H', ⟨Nat.le_refl _⟩, ⟨pK za.out⟩, ⟨qB1 HB zb⟩⟩
   case round =>
    clear H'
    try clear c15
    try clear hcz16_0 hcz16_1 hcz16_2 hfz16_0 hfz16_1 hfz16_2
    obtain ⟨x42_2, rfl, HA, HK2, za, HB⟩ := hrel
    cases gk with
    | zero => exact absurd HA.out (by simp [gradineref22_Cells.l0])
    | succ k2 =>
     have H := HA.out
     clear HA
     simp only [gradineref22_Cells.l0] at H
     by_cases c17 : x42_2 < (l0_1.length : Int)
     ·rw [if_pos c17] at H
      have zz : decide (x42_2 < (l0_1.length : Int)) = true := decide_eq_true c17
      clear c17
      by_cases c18 : 0 ≤ x42_2
      rotate_left
      ·rw [if_neg c18] at H
       exact absurd H (by simp)
      rw [if_pos c18] at H
      have c18b0 : decide (0 ≤ x42_2) = true := decide_eq_true c18
      clear c18
      by_cases c19 : x42_2 < (l0_1.length : Int)
      rotate_left
      ·rw [if_neg c19] at H
       exact absurd H (by simp)
      rw [if_pos c19] at H
      have c19b0 : decide (x42_2 < (l0_1.length : Int)) = true := decide_eq_true c19
      clear c19
      by_cases c20 : (rd l0_1 x42_2) > 1
      rotate_left
      ·rw [if_neg c20] at H
       have c20b0 : decide (1 < (rd l0_1 x42_2)) = false := decide_eq_false c20
       clear c20
       have H' := aM H
       clear H
       obtain ⟨hcz27_0, hcz27_1, hcz27_2, hfz27_0, hfz27_1, hfz27_2⟩ := blk3 za.out
       have p893 : 0 ≤ (x42_2 : Int) := of_decide_eq_true pD
       have q893 : x42_2 < (l0_1.length : Int) := of_decide_eq_true pD
       obtain ⟨ad893, e893, hx893_0⟩ := Kd.at_int zf.out x42_2 p893 q893
       cases e893
       replace hx893_0 := (HB.out.cell (World.block_lt_of_cell? w _ hx893_0)).trans hx893_0
       replace p893 := eq_true p893
       replace q893 := eq_true q893
       go_wp2
       repeat (go_quiet (fail); try go_wp2)
       go_roundg k2
       case measure => have := HJ2.out; have := HK2.out; omega
       case rel => exact ⟨(wrap64 (x42_2 + 1)), (pF), H', ⟨by have := HJ2.out; have := HK2.out; omega⟩, ⟨pK za.out⟩, ⟨qB1 HB zb⟩⟩
      rw [if_pos c20] at H
      have c20b0 : decide (1 < (rd l0_1 x42_2)) = true := decide_eq_true c20
      clear c20
      by_cases c21 : x42_2 < (l0_2.length : Int)
      rotate_left
      ·rw [if_neg c21] at H
       exact absurd H (by simp)
      rw [if_pos c21] at H
      have c21b0 : decide (x42_2 < (l0_2.length : Int)) = true := decide_eq_true c21
      clear c21
      by_cases c22 : (rd l0_2 x42_2) ≥ a1
      ·rw [if_pos c22] at H
       have c22b0 : decide (a1 ≤ (rd l0_2 x42_2)) = true := decide_eq_true c22
       clear c22
       obtain rfl := Option.some.inj H
       obtain ⟨hcz23_0, hcz23_1, hcz23_2, hfz23_0, hfz23_1, hfz23_2⟩ := blk3 za.out
       have p893 : 0 ≤ (x42_2 : Int) := of_decide_eq_true pD
       have q893 : x42_2 < (l0_1.length : Int) := of_decide_eq_true pD
       obtain ⟨ad893, e893, hx893_0⟩ := Kd.at_int zf.out x42_2 p893 q893
       cases e893
       replace hx893_0 := (HB.out.cell (World.block_lt_of_cell? w _ hx893_0)).trans hx893_0
       replace p893 := eq_true p893
       replace q893 := eq_true q893
       have p894 : 0 ≤ (x42_2 : Int) := of_decide_eq_true pD
       have q894 : x42_2 < (l0_2.length : Int) := of_decide_eq_true pD
       obtain ⟨ad894, e894, hx894_0⟩ := Kd.at_int zo.out x42_2 p894 q894
       cases e894
       replace hx894_0 := (HB.out.cell (World.block_lt_of_cell? w _ hx894_0)).trans hx894_0
       replace p894 := eq_true p894
       replace q894 := eq_true q894
       go_wp2
       repeat (go_quiet (fail); try go_wp2)
       go_ret
       exact ⟨_, pE, pN, qB1 HB zb⟩
      rw [if_neg c22] at H
      have c22b0 : decide (a1 ≤ (rd l0_2 x42_2)) = false := decide_eq_false c22
      clear c22
      by_cases c24 : (rd l0_2 x42_2) ≤ (wrap64 (-a1))
      ·rw [if_pos c24] at H
       have c24b0 : decide ((rd l0_2 x42_2) ≤ (wrap64 (-a1))) = true := decide_eq_true c24
       clear c24
       obtain rfl := Option.some.inj H
       obtain ⟨hcz25_0, hcz25_1, hcz25_2, hfz25_0, hfz25_1, hfz25_2⟩ := blk3 za.out
       have p893 : 0 ≤ (x42_2 : Int) := of_decide_eq_true pD
       have q893 : x42_2 < (l0_1.length : Int) := of_decide_eq_true pD
       obtain ⟨ad893, e893, hx893_0⟩ := Kd.at_int zf.out x42_2 p893 q893
       cases e893
       replace hx893_0 := (HB.out.cell (World.block_lt_of_cell? w _ hx893_0)).trans hx893_0
       replace p893 := eq_true p893
       replace q893 := eq_true q893
       have p894 : 0 ≤ (x42_2 : Int) := of_decide_eq_true pD
       have q894 : x42_2 < (l0_2.length : Int) := of_decide_eq_true pD
       obtain ⟨ad894, e894, hx894_0⟩ := Kd.at_int zo.out x42_2 p894 q894
       cases e894
       replace hx894_0 := (HB.out.cell (World.block_lt_of_cell? w _ hx894_0)).trans hx894_0
       replace p894 := eq_true p894
       replace q894 := eq_true q894
       have p895 : 0 ≤ (x42_2 : Int) := of_decide_eq_true pD
       have q895 : x42_2 < (l0_2.length : Int) := of_decide_eq_true pD
       obtain ⟨ad895, e895, hx895_0⟩ := Kd.at_int zo.out x42_2 p895 q895
       obtain rfl : ad894 = ad895 := (by injection e895)
       replace hx895_0 := (HB.out.cell (World.block_lt_of_cell? w _ hx895_0)).trans hx895_0
       replace p895 := eq_true p895
       replace q895 := eq_true q895
       go_wp2
       repeat (go_quiet (fail); try go_wp2)
       go_ret
       exact ⟨_, pE, pN, qB1 HB zb⟩
      rw [if_neg c24] at H
      have c24b0 : decide ((rd l0_2 x42_2) ≤ (wrap64 (-a1))) = false := decide_eq_false c24
      clear c24
      have H' := aM H
      clear H
      obtain ⟨hcz26_0, hcz26_1, hcz26_2, hfz26_0, hfz26_1, hfz26_2⟩ := blk3 za.out
      have p893 : 0 ≤ (x42_2 : Int) := of_decide_eq_true pD
      have q893 : x42_2 < (l0_1.length : Int) := of_decide_eq_true pD
      obtain ⟨ad893, e893, hx893_0⟩ := Kd.at_int zf.out x42_2 p893 q893
      cases e893
      replace hx893_0 := (HB.out.cell (World.block_lt_of_cell? w _ hx893_0)).trans hx893_0
      replace p893 := eq_true p893
      replace q893 := eq_true q893
      have p894 : 0 ≤ (x42_2 : Int) := of_decide_eq_true pD
      have q894 : x42_2 < (l0_2.length : Int) := of_decide_eq_true pD
      obtain ⟨ad894, e894, hx894_0⟩ := Kd.at_int zo.out x42_2 p894 q894
      cases e894
      replace hx894_0 := (HB.out.cell (World.block_lt_of_cell? w _ hx894_0)).trans hx894_0
      replace p894 := eq_true p894
      replace q894 := eq_true q894
      have p895 : 0 ≤ (x42_2 : Int) := of_decide_eq_true pD
      have q895 : x42_2 < (l0_2.length : Int) := of_decide_eq_true pD
      obtain ⟨ad895, e895, hx895_0⟩ := Kd.at_int zo.out x42_2 p895 q895
      obtain rfl : ad894 = ad895 := (by injection e895)
      replace hx895_0 := (HB.out.cell (World.block_lt_of_cell? w _ hx895_0)).trans hx895_0
      replace p895 := eq_true p895
      replace q895 := eq_true q895
      go_wp2
      repeat (go_quiet (fail); try go_wp2)
      go_roundg k2
      case measure => have := HJ2.out; have := HK2.out; omega
      case rel => exact ⟨(wrap64 (x42_2 + 1)), (pF), H', ⟨by have := HJ2.out; have := HK2.out; omega⟩, ⟨pK za.out⟩, ⟨qB1 HB zb⟩⟩
     rw [if_neg c17] at H
     have zz : decide (x42_2 < (l0_1.length : Int)) = false := decide_eq_false c17
     clear c17
     replace H := Option.bind_eq_some_iff.mp H
     obtain ⟨zc, z2, H⟩ := H
     try dsimp only at H
     have A28 := aM z2
     clear z2
     have H' := aM H
     clear H
     obtain ⟨hcz29_0, hcz29_1, hcz29_2, hfz29_0, hfz29_1, hfz29_2⟩ := blk3 za.out
     go_wp2_with (first | (go_at_call 48; (with_reducible refine (gradineref20_All.calls k2 _ _ l0_1 zc _ ?s1 ?s2 A28.out).mono ?_); (case s1 => exact sC zf HB); (case s2 => exact zi.out); rintro e w30 ⟨z3, rfl, ho0, hb⟩; have zp := aM (Kd.N_lower (Kd.N_mono (ok' := fun k_ => k_ ≠ zh) ho0 (fun k_ hk_ => (Kd.freshB (g := zh) (pK za.out) k_ hk_))) (below_size (qB1 HB zb))); replace za := bK za hb; replace HB := bS (qB1 HB zb) hb; (try clear hb); (try clear hk); (try clear hi); (try clear ho0); obtain ⟨z1, zy, zt⟩ := Kd.N_slice zp.out; subst zt))
     repeat (go_quiet (first | (go_at_call 48; (with_reducible refine (gradineref20_All.calls k2 _ _ l0_1 zc _ ?s1 ?s2 A28.out).mono ?_); (case s1 => exact sC zf HB); (case s2 => exact zi.out); rintro e w30 ⟨z3, rfl, ho0, hb⟩; have zp := aM (Kd.N_lower (Kd.N_mono (ok' := fun k_ => k_ ≠ zh) ho0 (fun k_ hk_ => (Kd.freshB (g := zh) (pK za.out) k_ hk_))) (below_size (qB1 HB zb))); replace za := bK za hb; replace HB := bS (qB1 HB zb) hb; (try clear hb); (try clear hk); (try clear hi); (try clear ho0); obtain ⟨z1, zy, zt⟩ := Kd.N_slice zp.out; subst zt)); try go_wp2_with (first | (go_at_call 48; (with_reducible refine (gradineref20_All.calls k2 _ _ l0_1 zc _ ?s1 ?s2 A28.out).mono ?_); (case s1 => exact sC zf HB); (case s2 => exact zi.out); rintro e w30 ⟨z3, rfl, ho0, hb⟩; have zp := aM (Kd.N_lower (Kd.N_mono (ok' := fun k_ => k_ ≠ zh) ho0 (fun k_ hk_ => (Kd.freshB (g := zh) (pK za.out) k_ hk_))) (below_size (qB1 HB zb))); replace za := bK za hb; replace HB := bS (qB1 HB zb) hb; (try clear hb); (try clear hk); (try clear hi); (try clear ho0); obtain ⟨z1, zy, zt⟩ := Kd.N_slice zp.out; subst zt)))
     go_loopg [7, 76] k2 (fun kq v7 v76 w' => ∃ (x7_3 : List Int) (x76_3 : Int), v76 = .int .i64 x76_3 ∧ Aside0 (gradineref22_Cells.l1 kq a1 zc x7_3 (zc.length : Int) x76_3 a0_0 l0_1 l0_2 = some r) ∧ Aside0 (kq ≤ k2) ∧ Aside0 (Kd.N (Kd.slice 3 (Kd.int .i64)) 22 w' w.heap.size (fun k_ => some k_ ≠ (v7 : Value).ownBlock ∧ k_ ≠ zh) (.slice z1 zc.length zy) zc) ∧ Aside0 (Kd.R (Kd.int .i64) 3 w' w.heap.size (fun _ => True) v7 x7_3) ∧ Aside0 (w'.heap[zh]? = some (.cells #[.int .i64 a0_0, (.slice A0_1 l0_1.length c0_1), (.slice A0_2 l0_2.length c0_2)] 44 (0, 0))) ∧ Aside0 (Below w.heap.size w w'))
     case atStart => exact ⟨(([] : List Int)), (0), (pF), H', ⟨Nat.le_refl _⟩, ⟨by (with_reducible repeat (first | apply Kd.N_alloc | apply Kd.N_drewN | apply Kd.N_drew)); exact Kd.N_mono zp.out (fun _ hk => ⟨(by simp [Value.ownBlock]), hk⟩)⟩, ⟨pN⟩, ⟨pK za.out⟩, ⟨qB1 HB zb⟩⟩
     case round =>
      clear H'
      try clear zz
      try clear hcz29_0 hcz29_1 hcz29_2 hfz29_0 hfz29_1 hfz29_2
      obtain ⟨x7_3, x76_3, rfl, HA, HK3, zk, zm, za, HB⟩ := hrel
      cases gk with
      | zero => exact absurd HA.out (by simp [gradineref22_Cells.l1])
      | succ k3 =>
       have H := HA.out
       clear HA
       simp only [gradineref22_Cells.l1] at H
       by_cases c32 : x76_3 < (zc.length : Int)
       rotate_left
       ·rw [if_neg c32] at H
        have z0 : decide (x76_3 < (zc.length : Int)) = false := decide_eq_false c32
        clear c32
        obtain rfl := Option.some.inj H
        go_wp2
        repeat (go_quiet (fail); try go_wp2)
        go_ret
        exact ⟨_, pE, pR zm.out, qB1 HB zb⟩
       rw [if_pos c32] at H
       have z0 : decide (x76_3 < (zc.length : Int)) = true := decide_eq_true c32
       clear c32
       by_cases c33 : 0 ≤ x76_3
       rotate_left
       ·rw [if_neg c33] at H
        exact absurd H (by simp)
       rw [if_pos c33] at H
       have c33b0 : decide (0 ≤ x76_3) = true := decide_eq_true c33
       clear c33
       by_cases c34 : x76_3 < (zc.length : Int)
       rotate_left
       ·rw [if_neg c34] at H
        exact absurd H (by simp)
       rw [if_pos c34] at H
       have c34b0 : decide (x76_3 < (zc.length : Int)) = true := decide_eq_true c34
       clear c34
       have H' := aM H
       clear H
       obtain ⟨hcz35_0, hcz35_1, hcz35_2, hfz35_0, hfz35_1, hfz35_2⟩ := blk3 za.out
       have p899 : 0 ≤ (x76_3 : Int) := of_decide_eq_true pD
       have q899 : x76_3 < (zc.length : Int) := of_decide_eq_true pD
       obtain ⟨ad899, A899_0, c899_0, e899, hx899_0, hl899_0, hi899_0⟩ := at_L1 (Kd.N_reads' zk.out).2.2 x76_3 p899 q899
       cases e899
       obtain ⟨ce899, hce899, hMe899, hcc899⟩ := Kd.N_get zk.out [] x76_3 p899 (by first | exact q899 | exact of_decide_eq_true pD | (have e_ := (Kd.N_reads' zk.out).1; omega))
       obtain ⟨ua899_0, uc899_0, rfl, ul899_0, ge899_0⟩ := Kd.FK_slice_open hMe899
       have hv899_0 := hcc899 0 _ rfl
       rw [Nat.add_zero, show ((Kd.slice 3 (Kd.int .i64))).sz = 1 from rfl, Nat.mul_one] at hv899_0
       replace hv899_0 := Option.some.inj (hv899_0.symm.trans hx899_0)
       injection hv899_0 with hva_ hvn_ hvc_
       rw [hva_] at ge899_0
       rw [hvc_] at ul899_0
       have HL899_0 := aM (show Kd.V (Kd.int .i64) 3 _ w.heap.size _ _ (rd_L1 zc x76_3) from Kd.V_mk ul899_0 ge899_0)
       clear hva_ hvn_ hvc_ ge899_0 ul899_0
       clear hcc899 hce899
       have zl := aM hi899_0
       have HC899_0 := aM hl899_0
       clear hi899_0 hl899_0
       replace p899 := eq_true p899
       replace q899 := eq_true q899
       go_wp2
       repeat (go_quiet (fail); try go_wp2)
       go_loopg [9, 86] k3 (fun kq v9 v86 w' => ∃ (x9_4 : Int) (x86_4 : Int), v9 = .int .i64 x9_4 ∧ v86 = .int .i64 x86_4 ∧ Aside0 (gradineref22_Cells.l2 kq a1 zc x7_3 x76_3 x9_4 (zc.length : Int) x76_3 ((rd_L1 zc x76_3).length : Int) x86_4 a0_0 l0_1 l0_2 = some r) ∧ Aside0 (kq ≤ k3) ∧ Aside0 (Kd.N (Kd.slice 3 (Kd.int .i64)) 22 w' w.heap.size (fun k_ => some k_ ≠ (u7 : Value).ownBlock ∧ k_ ≠ zh) (.slice (some ad899) zc.length zy) zc) ∧ Aside0 (Kd.R (Kd.int .i64) 3 w' w.heap.size (fun _ => True) u7 x7_3) ∧ Aside0 (w'.heap[zh]? = some (.cells #[.int .i64 a0_0, (.slice A0_1 l0_1.length c0_1), (.slice A0_2 l0_2.length c0_2)] 44 (0, 0))) ∧ Aside0 (Kd.C (Kd.int .i64) w' A899_0 (rd_L1 zc x76_3).length (rd_L1 zc x76_3)) ∧ Aside0 (Below w.heap.size w w'))
       case atStart => exact ⟨(a0_0), (0), (pF), (pF), H', ⟨Nat.le_refl _⟩, ⟨by (with_reducible repeat (first | apply Kd.N_alloc | apply Kd.N_drewN | apply Kd.N_drew)); exact zk.out⟩, ⟨pR zm.out⟩, ⟨pK za.out⟩, ⟨by repeat (first | (with_reducible exact zl.out) | (with_reducible refine Kd.C_alloc ?_ _) | (with_reducible refine Kd.C_drewN ?_ _) | (with_reducible refine Kd.C_drew ?_) | exact zl.out)⟩, ⟨qB1 HB zb⟩⟩
       case round =>
        clear H'
        try clear z0
        try clear c33b0
        try clear c34b0
        try clear hcz35_0 hcz35_1 hcz35_2 hfz35_0 hfz35_1 hfz35_2
        try clear hx899_0
        try clear p899
        try clear q899
        obtain ⟨x9_4, x86_4, rfl, rfl, HA, HK4, zk, zm, za, zl, HB⟩ := hrel
        cases gk with
        | zero => exact absurd HA.out (by simp [gradineref22_Cells.l2])
        | succ k4 =>
         have H := HA.out
         clear HA
         simp only [gradineref22_Cells.l2] at H
         by_cases c36 : x86_4 < ((rd_L1 zc x76_3).length : Int)
         rotate_left
         ·rw [if_neg c36] at H
          have c36b0 : decide (x86_4 < ((rd_L1 zc x76_3).length : Int)) = false := decide_eq_false c36
          clear c36
          by_cases c44 : x9_4 < 0
          ·rw [if_pos c44] at H
           have c44b0 : decide (x9_4 < 0) = true := decide_eq_true c44
           clear c44
           obtain rfl := Option.some.inj H
           go_wp2
           repeat (go_quiet (fail); try go_wp2)
           go_ret
           exact ⟨_, pE, pN, qB1 HB zb⟩
          rw [if_neg c44] at H
          have c44b0 : decide (x9_4 < 0) = false := decide_eq_false c44
          clear c44
          by_cases c45 : x9_4 ≥ a1
          ·rw [if_pos c45] at H
           have c45b0 : decide (a1 ≤ x9_4) = true := decide_eq_true c45
           clear c45
           obtain rfl := Option.some.inj H
           go_wp2
           repeat (go_quiet (fail); try go_wp2)
           go_ret
           exact ⟨_, pE, pN, qB1 HB zb⟩
          rw [if_neg c45] at H
          have c45b0 : decide (a1 ≤ x9_4) = false := decide_eq_false c45
          clear c45
          by_cases c46 : x7_3.length < 17592186044416
          rotate_left
          ·rw [if_neg c46] at H
           exact absurd H (by simp)
          rw [if_pos c46] at H
          have zu := aM c46
          clear c46
          obtain ⟨z4, zv⟩ : ∃ y_ : List Int, y_ = (x7_3 ++ [x9_4]) := ⟨_, rfl⟩
          replace H : (gradineref22_Cells.l1 k4 a1 zc z4 (zc.length : Int) (wrap64 (x76_3 + 1)) a0_0 l0_1 l0_2) = some r := pH zv H
          have zw := aM zv
          clear zv
          have H' := aM H
          clear H
          go_wp2_with (first | ((with_reducible refine gate_builtin (b := .append) (xs := #[.tmp 120, .tmp 122]) rfl ?_); (try (refine gate_guard (by rfl) ?_; dsimp only)); at_builtin; refine Kd.R_append (Kd.int .i64) (w0 := w) w.heap.size rfl (.tmp 120) (.tmp 122) 22 3 (.int .i64 0) 8 rfl Try.underlying22 info3 rfl (by decide) (by omega) u7 x7_3 x9_4 [.int .i64 x9_4] (fun _ => True) (fun _ => False) rfl rfl ?aP (fun _ hk => hk.elim) ?aF ?aO ?aB ?aS ?aL ?_; (case aP => exact rfl); (case aB => exact (qB1 HB zb)); (case aF => exact (fun _ _ => trivial)); (case aO => exact (pR zm.out)); (case aS => exact (below_size (qB1 HB zb))); (case aL => have := zu.out; omega); intro z5 w47 ho hb hg hat; rw [← zw.out] at ho; replace zk := aM (Kd.N_afterv (ok := (fun k_ => k_ ≠ zh)) (by (with_reducible repeat (first | apply Kd.N_alloc | apply Kd.N_drewN | apply Kd.N_drew)); exact Kd.N_mono zk.out (fun _ hk => ⟨hk.2, hk.1⟩)) hg hat); replace za := aM (blk_grown (g := zh) (pK za.out) hg (Kd.R_ne zm.out za.out (by decide))); replace HB := aM (hb); have zx := aM (ho); clear zm; clear ho hb hg hat))
          repeat (go_quiet (first | ((with_reducible refine gate_builtin (b := .append) (xs := #[.tmp 120, .tmp 122]) rfl ?_); (try (refine gate_guard (by rfl) ?_; dsimp only)); at_builtin; refine Kd.R_append (Kd.int .i64) (w0 := w) w.heap.size rfl (.tmp 120) (.tmp 122) 22 3 (.int .i64 0) 8 rfl Try.underlying22 info3 rfl (by decide) (by omega) u7 x7_3 x9_4 [.int .i64 x9_4] (fun _ => True) (fun _ => False) rfl rfl ?aP (fun _ hk => hk.elim) ?aF ?aO ?aB ?aS ?aL ?_; (case aP => exact rfl); (case aB => exact (qB1 HB zb)); (case aF => exact (fun _ _ => trivial)); (case aO => exact (pR zm.out)); (case aS => exact (below_size (qB1 HB zb))); (case aL => have := zu.out; omega); intro z5 w47 ho hb hg hat; rw [← zw.out] at ho; replace zk := aM (Kd.N_afterv (ok := (fun k_ => k_ ≠ zh)) (by (with_reducible repeat (first | apply Kd.N_alloc | apply Kd.N_drewN | apply Kd.N_drew)); exact Kd.N_mono zk.out (fun _ hk => ⟨hk.2, hk.1⟩)) hg hat); replace za := aM (blk_grown (g := zh) (pK za.out) hg (Kd.R_ne zm.out za.out (by decide))); replace HB := aM (hb); have zx := aM (ho); clear zm; clear ho hb hg hat)); try go_wp2_with (first | ((with_reducible refine gate_builtin (b := .append) (xs := #[.tmp 120, .tmp 122]) rfl ?_); (try (refine gate_guard (by rfl) ?_; dsimp only)); at_builtin; refine Kd.R_append (Kd.int .i64) (w0 := w) w.heap.size rfl (.tmp 120) (.tmp 122) 22 3 (.int .i64 0) 8 rfl Try.underlying22 info3 rfl (by decide) (by omega) u7 x7_3 x9_4 [.int .i64 x9_4] (fun _ => True) (fun _ => False) rfl rfl ?aP (fun _ hk => hk.elim) ?aF ?aO ?aB ?aS ?aL ?_; (case aP => exact rfl); (case aB => exact (qB1 HB zb)); (case aF => exact (fun _ _ => trivial)); (case aO => exact (pR zm.out)); (case aS => exact (below_size (qB1 HB zb))); (case aL => have := zu.out; omega); intro z5 w47 ho hb hg hat; rw [← zw.out] at ho; replace zk := aM (Kd.N_afterv (ok := (fun k_ => k_ ≠ zh)) (by (with_reducible repeat (first | apply Kd.N_alloc | apply Kd.N_drewN | apply Kd.N_drew)); exact Kd.N_mono zk.out (fun _ hk => ⟨hk.2, hk.1⟩)) hg hat); replace za := aM (blk_grown (g := zh) (pK za.out) hg (Kd.R_ne zm.out za.out (by decide))); replace HB := aM (hb); have zx := aM (ho); clear zm; clear ho hb hg hat)))
          go_roundg k4
          case measure => have := HJ2.out; have := HK2.out; have := HK3.out; have := HK4.out; omega
          case rel => exact ⟨(z4), (wrap64 (x76_3 + 1)), (pF), H', ⟨by have := HJ2.out; have := HK2.out; have := HK3.out; have := HK4.out; omega⟩, ⟨by (with_reducible repeat (first | apply Kd.N_alloc | apply Kd.N_drewN | apply Kd.N_drew)); exact Kd.N_mono zk.out (fun _ hk => ⟨hk.2, hk.1⟩)⟩, ⟨pR zx.out⟩, ⟨pK za.out⟩, ⟨qB1 HB zb⟩⟩
         rw [if_pos c36] at H
         have c36b0 : decide (x86_4 < ((rd_L1 zc x76_3).length : Int)) = true := decide_eq_true c36
         clear c36
         by_cases c37 : 0 ≤ x76_3
         rotate_left
         ·rw [if_neg c37] at H
          exact absurd H (by simp)
         rw [if_pos c37] at H
         have c37b0 : decide (0 ≤ x76_3) = true := decide_eq_true c37
         clear c37
         by_cases c38 : x76_3 < (zc.length : Int)
         rotate_left
         ·rw [if_neg c38] at H
          exact absurd H (by simp)
         rw [if_pos c38] at H
         have c38b0 : decide (x76_3 < (zc.length : Int)) = true := decide_eq_true c38
         clear c38
         by_cases c39 : 0 ≤ x86_4
         rotate_left
         ·rw [if_neg c39] at H
          exact absurd H (by simp)
         rw [if_pos c39] at H
         have c39b0 : decide (0 ≤ x86_4) = true := decide_eq_true c39
         clear c39
         by_cases c40 : x86_4 < ((rd_L1 zc x76_3).length : Int)
         rotate_left
         ·rw [if_neg c40] at H
          exact absurd H (by simp)
         rw [if_pos c40] at H
         have c40b0 : decide (x86_4 < ((rd_L1 zc x76_3).length : Int)) = true := decide_eq_true c40
         clear c40
         by_cases c41 : (rd (rd_L1 zc x76_3) x86_4) > 0
         rotate_left
         ·rw [if_neg c41] at H
          have c41b0 : decide (0 < (rd (rd_L1 zc x76_3) x86_4)) = false := decide_eq_false c41
          clear c41
          have H' := aM H
          clear H
          have p900 : 0 ≤ (x76_3 : Int) := of_decide_eq_true pD
          have q900 : x76_3 < (zc.length : Int) := of_decide_eq_true pD
          obtain ⟨ad900, A900_0, c900_0, e900, hx900_0, hl900_0, hi900_0⟩ := at_L1 (Kd.N_reads' zk.out).2.2 x76_3 p900 q900
          obtain rfl : ad899 = ad900 := (by injection e900)
          obtain ⟨ce900, hce900, hMe900, hcc900⟩ := Kd.N_get zk.out [] x76_3 p900 (by first | exact q900 | exact of_decide_eq_true pD | (have e_ := (Kd.N_reads' zk.out).1; omega))
          obtain ⟨ua900_0, uc900_0, rfl, ul900_0, ge900_0⟩ := Kd.FK_slice_open hMe900
          have hv900_0 := hcc900 0 _ rfl
          rw [Nat.add_zero, show ((Kd.slice 3 (Kd.int .i64))).sz = 1 from rfl, Nat.mul_one] at hv900_0
          replace hv900_0 := Option.some.inj (hv900_0.symm.trans hx900_0)
          injection hv900_0 with hva_ hvn_ hvc_
          rw [hva_] at ge900_0
          rw [hvc_] at ul900_0
          have HL900_0 := aM (show Kd.V (Kd.int .i64) 3 _ w.heap.size _ _ (rd_L1 zc x76_3) from Kd.V_mk ul900_0 ge900_0)
          clear hva_ hvn_ hvc_ ge900_0 ul900_0
          clear hcc900 hce900
          have zn := aM hi900_0
          have HC900_0 := aM hl900_0
          clear hi900_0 hl900_0
          replace p900 := eq_true p900
          replace q900 := eq_true q900
          have p901 : 0 ≤ (x86_4 : Int) := of_decide_eq_true pD
          have q901 : x86_4 < ((rd_L1 zc x76_3).length : Int) := of_decide_eq_true pD
          obtain ⟨ad901, e901, hx901_0⟩ := Kd.at_int (by repeat (first | (with_reducible exact zn.out) | (with_reducible refine Kd.C_alloc ?_ _) | (with_reducible refine Kd.C_drewN ?_ _) | (with_reducible refine Kd.C_drew ?_) | exact zn.out)) x86_4 p901 q901
          cases e901
          replace p901 := eq_true p901
          replace q901 := eq_true q901
          go_wp2
          repeat (go_quiet (fail); try go_wp2)
          go_roundg k4
          case measure => have := HJ2.out; have := HK2.out; have := HK3.out; have := HK4.out; omega
          case rel => exact ⟨(x9_4), (wrap64 (x86_4 + 1)), (pF), (pF), H', ⟨by have := HJ2.out; have := HK2.out; have := HK3.out; have := HK4.out; omega⟩, ⟨by (with_reducible repeat (first | apply Kd.N_alloc | apply Kd.N_drewN | apply Kd.N_drew)); exact zk.out⟩, ⟨pR zm.out⟩, ⟨pK za.out⟩, ⟨by repeat (first | (with_reducible exact zl.out) | (with_reducible refine Kd.C_alloc ?_ _) | (with_reducible refine Kd.C_drewN ?_ _) | (with_reducible refine Kd.C_drew ?_) | exact zl.out)⟩, ⟨qB1 HB zb⟩⟩
         rw [if_pos c41] at H
         have c41b0 : decide (0 < (rd (rd_L1 zc x76_3) x86_4)) = true := decide_eq_true c41
         clear c41
         by_cases c42 : x86_4 < (l0_2.length : Int)
         rotate_left
         ·rw [if_neg c42] at H
          exact absurd H (by simp)
         rw [if_pos c42] at H
         have c42b0 : decide (x86_4 < (l0_2.length : Int)) = true := decide_eq_true c42
         clear c42
         have H' := aM H
         clear H
         have p900 : 0 ≤ (x76_3 : Int) := of_decide_eq_true pD
         have q900 : x76_3 < (zc.length : Int) := of_decide_eq_true pD
         obtain ⟨ad900, A900_0, c900_0, e900, hx900_0, hl900_0, hi900_0⟩ := at_L1 (Kd.N_reads' zk.out).2.2 x76_3 p900 q900
         obtain rfl : ad899 = ad900 := (by injection e900)
         obtain ⟨ce900, hce900, hMe900, hcc900⟩ := Kd.N_get zk.out [] x76_3 p900 (by first | exact q900 | exact of_decide_eq_true pD | (have e_ := (Kd.N_reads' zk.out).1; omega))
         obtain ⟨ua900_0, uc900_0, rfl, ul900_0, ge900_0⟩ := Kd.FK_slice_open hMe900
         have hv900_0 := hcc900 0 _ rfl
         rw [Nat.add_zero, show ((Kd.slice 3 (Kd.int .i64))).sz = 1 from rfl, Nat.mul_one] at hv900_0
         replace hv900_0 := Option.some.inj (hv900_0.symm.trans hx900_0)
         injection hv900_0 with hva_ hvn_ hvc_
         rw [hva_] at ge900_0
         rw [hvc_] at ul900_0
         have HL900_0 := aM (show Kd.V (Kd.int .i64) 3 _ w.heap.size _ _ (rd_L1 zc x76_3) from Kd.V_mk ul900_0 ge900_0)
         clear hva_ hvn_ hvc_ ge900_0 ul900_0
         clear hcc900 hce900
         have zn := aM hi900_0
         have HC900_0 := aM hl900_0
         clear hi900_0 hl900_0
         replace p900 := eq_true p900
         replace q900 := eq_true q900
         have p901 : 0 ≤ (x86_4 : Int) := of_decide_eq_true pD
         have q901 : x86_4 < ((rd_L1 zc x76_3).length : Int) := of_decide_eq_true pD
         obtain ⟨ad901, e901, hx901_0⟩ := Kd.at_int (by repeat (first | (with_reducible exact zn.out) | (with_reducible refine Kd.C_alloc ?_ _) | (with_reducible refine Kd.C_drewN ?_ _) | (with_reducible refine Kd.C_drew ?_) | exact zn.out)) x86_4 p901 q901
         cases e901
         replace p901 := eq_true p901
         replace q901 := eq_true q901
         have p902 : 0 ≤ (x76_3 : Int) := of_decide_eq_true pD
         have q902 : x76_3 < (zc.length : Int) := of_decide_eq_true pD
         obtain ⟨ad902, A902_0, c902_0, e902, hx902_0, hl902_0, hi902_0⟩ := at_L1 (Kd.N_reads' zk.out).2.2 x76_3 p902 q902
         obtain rfl : ad899 = ad902 := (by injection e902)
         obtain ⟨ce902, hce902, hMe902, hcc902⟩ := Kd.N_get zk.out [] x76_3 p902 (by first | exact q902 | exact of_decide_eq_true pD | (have e_ := (Kd.N_reads' zk.out).1; omega))
         obtain ⟨ua902_0, uc902_0, rfl, ul902_0, ge902_0⟩ := Kd.FK_slice_open hMe902
         have hv902_0 := hcc902 0 _ rfl
         rw [Nat.add_zero, show ((Kd.slice 3 (Kd.int .i64))).sz = 1 from rfl, Nat.mul_one] at hv902_0
         replace hv902_0 := Option.some.inj (hv902_0.symm.trans hx902_0)
         injection hv902_0 with hva_ hvn_ hvc_
         rw [hva_] at ge902_0
         rw [hvc_] at ul902_0
         have HL902_0 := aM (show Kd.V (Kd.int .i64) 3 _ w.heap.size _ _ (rd_L1 zc x76_3) from Kd.V_mk ul902_0 ge902_0)
         clear hva_ hvn_ hvc_ ge902_0 ul902_0
         clear hcc902 hce902
         have zr := aM hi902_0
         have HC902_0 := aM hl902_0
         clear hi902_0 hl902_0
         replace p902 := eq_true p902
         replace q902 := eq_true q902
         have ea_ := Option.some.inj (hx900_0.symm.trans hx902_0)
         injection ea_ with ea_ en_ ec_
         subst ea_
         subst ec_
         clear en_
         have p903 : 0 ≤ (x86_4 : Int) := of_decide_eq_true pD
         have q903 : x86_4 < ((rd_L1 zc x76_3).length : Int) := of_decide_eq_true pD
         obtain ⟨ad903, e903, hx903_0⟩ := Kd.at_int (by repeat (first | (with_reducible exact zr.out) | (with_reducible refine Kd.C_alloc ?_ _) | (with_reducible refine Kd.C_drewN ?_ _) | (with_reducible refine Kd.C_drew ?_) | exact zr.out)) x86_4 p903 q903
         cases e903
         replace p903 := eq_true p903
         replace q903 := eq_true q903
         obtain ⟨hcz43_0, hcz43_1, hcz43_2, hfz43_0, hfz43_1, hfz43_2⟩ := blk3 za.out
         have p904 : 0 ≤ (x86_4 : Int) := of_decide_eq_true pD
         have q904 : x86_4 < (l0_2.length : Int) := of_decide_eq_true pD
         obtain ⟨ad904, e904, hx904_0⟩ := Kd.at_int zo.out x86_4 p904 q904
         cases e904
         replace hx904_0 := (HB.out.cell (World.block_lt_of_cell? w _ hx904_0)).trans hx904_0
         replace p904 := eq_true p904
         replace q904 := eq_true q904
         go_wp2
         repeat (go_quiet (fail); try go_wp2)
         go_roundg k4
         case measure => have := HJ2.out; have := HK2.out; have := HK3.out; have := HK4.out; omega
         case rel => exact ⟨(wrap64 (x9_4 + (wrap64 ((rd (rd_L1 zc x76_3) x86_4) * (rd l0_2 x86_4))))), (wrap64 (x86_4 + 1)), (pF), (pF), H', ⟨by have := HJ2.out; have := HK2.out; have := HK3.out; have := HK4.out; omega⟩, ⟨by (with_reducible repeat (first | apply Kd.N_alloc | apply Kd.N_drewN | apply Kd.N_drew)); exact zk.out⟩, ⟨pR zm.out⟩, ⟨pK za.out⟩, ⟨by repeat (first | (with_reducible exact zl.out) | (with_reducible refine Kd.C_alloc ?_ _) | (with_reducible refine Kd.C_drewN ?_ _) | (with_reducible refine Kd.C_drew ?_) | exact zl.out)⟩, ⟨qB1 HB zb⟩⟩
def gradineref22_Right.f (k : Nat) (a0_0 : Int) (l0_1 : List Int) (l0_2 : List Int) (a1 : Int) : Option (Bool) := (gradineref22_Cells.f k a0_0 l0_1 l0_2 a1).bind fun za => (some (decide ((za.length : Int) > 0)))
set_option maxHeartbeats 8000000 in
set_option maxRecDepth 100000 in
theorem gradineref22_Right.calls (k : Nat) (a0_0 : Int) (A0_1 : Option Addr) (c0_1 : Nat) (l0_1 : List Int) (A0_2 : Option Addr) (c0_2 : Nat) (l0_2 : List Int) (a1 : Int) (r : Bool) (w : World) (hr0_1 : Kd.C (Kd.int .i64) w A0_1 l0_1.length l0_1) (hc0_1 : l0_1.length ≤ c0_1) (hr0_2 : Kd.C (Kd.int .i64) w A0_2 l0_2.length l0_2) (hc0_2 : l0_2.length ≤ c0_2) (h : gradineref22_Right.f k a0_0 l0_1 l0_2 a1 = some r) :
  Calls Try.prog 17 #[.agg #[.int .i64 a0_0, .slice A0_1 l0_1.length c0_1, .slice A0_2 l0_2.length c0_2], .int .i64 a1] w fun e w' => e = .returned (.bool r) ∧ Below w.heap.size w w' := by
 have hu44 := Try.underlying44
 have HR0_1 := aM hr0_1
 have HC0_1 := aM hc0_1
 clear hr0_1 hc0_1
 have HR0_2 := aM hr0_2
 have HC0_2 := aM hc0_2
 clear hr0_2 hc0_2
 have HB := aM (Below.refl w.heap.size w)
 have H : ((gradineref22_Cells.f k a0_0 l0_1 l0_2 a1).bind fun za => (some (decide ((za.length : Int) > 0)))) = some r := h
 clear h
 replace H := Option.bind_eq_some_iff.mp H
 obtain ⟨za, A30, H⟩ := H
 try dsimp only at H
 have A3 := aM A30
 clear A30
 obtain rfl := Option.some.inj H
 go_enter Try.func17, Try.ntmps17
 go_wp2_with (first | ((with_reducible refine gate_dst (N := 2) rfl ?_); refine box_event ?hg (N := 2) ?hd (cs := #[.int .i64 a0_0, .slice A0_1 l0_1.length c0_1, .slice A0_2 l0_2.length c0_2]) (t := 44) ?hr ?_; (case hd => rfl); (case hg => rfl); (case hr => first | (go_simp; done) | (go_simp; rfl)); intro gb908 hg w4 hbox hb; have zb := aM (hbox); have GW908 := gE (w := w) hg (qB HB); have zc := GW908; replace HB := bS (qB HB) hb; clear hb hbox hg; obtain ⟨hcz5_0, hcz5_1, hcz5_2, hfz5_0, hfz5_1, hfz5_2⟩ := blk3 zb.out) | ((with_reducible refine gate_callee (f := 19) rfl ?_); refine goesL_ (some 7) rfl rfl Try.func19 (by kernel_rfl) rfl #[.agg #[.int .i64 a0_0, .slice A0_1 l0_1.length c0_1, .slice A0_2 l0_2.length c0_2], .int .i64 a1] rfl pA ?_; (with_reducible refine (gradineref22_Cells.calls k a0_0 _ _ l0_1 _ _ l0_2 a1 za _ ?s1 ?s2 ?s3 ?s4 A3.out).mono ?_); (case s1 => exact sC HR0_1 HB); (case s2 => exact HC0_1.out); (case s3 => exact sC HR0_2 HB); (case s4 => exact HC0_2.out); rintro e w6 ⟨v910, rfl, ho0, hb⟩; refine ⟨_, rfl, ?_⟩; have HO911 := aM (Kd.R_lower ho0 (below_size (qB1 HB zc))); replace zb := bK zb hb; replace HB := bS (qB1 HB zc) hb; (try clear hb); (try clear hk); (try clear hi); (try clear ho0); obtain ⟨Ao7, co7, eo7⟩ := Kd.R_slice HO911.out; subst eo7))
 go_ret
 exact ⟨pE, qB1 HB zc⟩
def view_At.l0 : Nat → Int → List Int → Int → Int → Int → List Int → List Int → Option (Int × Bool)
 | 0, _, _, _, _, _, _, _ => none
 | k + 1, x8, x25, x26, x27, zh, zi, zd => if x27 < x26 then (if 0 ≤ x27 then (if x27 < (x25.length : Int) then (if (rd x25 x27) > 0 then (if x27 < (zd.length : Int) then (view_At.l0 k (wrap64 (x8 + (wrap64 ((rd x25 x27) * (rd zd x27))))) x25 x26 (wrap64 (x27 + 1)) zh zi zd) else (none)) else (view_At.l0 k x8 x25 x26 (wrap64 (x27 + 1)) zh zi zd)) else (none)) else (none)) else (some (x8, true))
def view_At.f (k : Nat) (a0_0 : Int) (l0_1 : List Int) (l0_2 : List Int) (a1 : Int) : Option (Int × Bool) := (view_right.f k a0_0 l0_1 l0_2).bind fun zl => (if zl = true then ((walk_At.f k l0_1 a1).bind fun bt914 => (if bt914.2 = true then (view_At.l0 k a0_0 bt914.1 (bt914.1.length : Int) 0 a0_0 l0_1 l0_2) else (some (0, false)))) else (some (0, false)))
set_option maxHeartbeats 8000000 in
set_option maxRecDepth 100000 in
theorem view_At.calls (k : Nat) (a0_0 : Int) (A0_1 : Option Addr) (c0_1 : Nat) (l0_1 : List Int) (A0_2 : Option Addr) (c0_2 : Nat) (l0_2 : List Int) (a1 : Int) (r1 : Int) (r2 : Bool) (w : World) (hr0_1 : Kd.C (Kd.int .i64) w A0_1 l0_1.length l0_1) (hc0_1 : l0_1.length ≤ c0_1) (hr0_2 : Kd.C (Kd.int .i64) w A0_2 l0_2.length l0_2) (hc0_2 : l0_2.length ≤ c0_2) (h : view_At.f k a0_0 l0_1 l0_2 a1 = some (r1, r2)) :
  Calls Try.prog 21 #[.agg #[.int .i64 a0_0, .slice A0_1 l0_1.length c0_1, .slice A0_2 l0_2.length c0_2], .int .i64 a1] w fun e w' => e = .returned (.tuple #[.int .i64 r1, .bool r2]) ∧ Below w.heap.size w w' := by
 have hu44 := Try.underlying44
 have ze := aM hr0_1
 have zf := aM hc0_1
 clear hr0_1 hc0_1
 have zj := aM hr0_2
 have zm := aM hc0_2
 clear hr0_2 hc0_2
 have HB := aM (Below.refl w.heap.size w)
 have H : ((view_right.f k a0_0 l0_1 l0_2).bind fun zl => (if zl = true then ((walk_At.f k l0_1 a1).bind fun bt914 => (if bt914.2 = true then (view_At.l0 k a0_0 bt914.1 (bt914.1.length : Int) 0 a0_0 l0_1 l0_2) else (some (0, false)))) else (some (0, false)))) = some (r1, r2) := h
 clear h
 replace H := Option.bind_eq_some_iff.mp H
 obtain ⟨zl, A30, H⟩ := H
 try dsimp only at H
 have A3 := aM A30
 clear A30
 by_cases c4 : zl = true
 rotate_left
 ·replace c4 := Bool.eq_false_iff.mpr c4
  subst c4
  rw [if_neg (show ¬ (false = true) by decide)] at H
  simp only [Option.some.injEq, Prod.mk.injEq] at H
  obtain ⟨rfl, rfl⟩ := H
  go_enter Try.func21, Try.ntmps21
  go_wp2_with (first | ((with_reducible refine gate_dst (N := 2) rfl ?_); refine box_event ?hg (N := 2) ?hd (cs := #[.int .i64 a0_0, .slice A0_1 l0_1.length c0_1, .slice A0_2 l0_2.length c0_2]) (t := 44) ?hr ?_; (case hd => rfl); (case hg => rfl); (case hr => first | (go_simp; done) | (go_simp; rfl)); intro zn hg w25 hbox hb; have za := aM (hbox); have zg := gE (w := w) hg (qB HB); have zb := zg; replace HB := bS (qB HB) hb; clear hb hbox hg; obtain ⟨hcz26_0, hcz26_1, hcz26_2, hfz26_0, hfz26_1, hfz26_2⟩ := blk3 za.out) | ((with_reducible refine gate_callee (f := 49) rfl ?_); refine goesL_ (some 12) rfl rfl Try.func49 (by kernel_rfl) rfl #[.agg #[.int .i64 a0_0, .slice A0_1 l0_1.length c0_1, .slice A0_2 l0_2.length c0_2]] rfl pA ?_; (with_reducible refine (view_right.calls k a0_0 _ _ l0_1 _ _ l0_2 false _ ?s1 ?s2 ?s3 ?s4 A3.out).mono ?_); (case s1 => exact sC ze HB); (case s2 => exact zf.out); (case s3 => exact sC zj HB); (case s4 => exact zm.out); rintro e w27 ⟨rfl, hb⟩; refine ⟨_, rfl, ?_⟩; replace za := bK za hb; replace HB := bS (qB1 HB zb) hb; (try clear hb); (try clear hk); (try clear hi)))
  go_ret2
  exact ⟨pE, qB1 HB zb⟩
 subst c4
 rw [if_pos rfl] at H
 replace H := Option.bind_eq_some_iff.mp H
 obtain ⟨⟨zc, t915⟩, A50, H⟩ := H
 try dsimp only at H
 have A5 := aM A50
 clear A50
 by_cases c6 : t915 = true
 rotate_left
 ·replace c6 := Bool.eq_false_iff.mpr c6
  subst c6
  rw [if_neg (show ¬ (false = true) by decide)] at H
  simp only [Option.some.injEq, Prod.mk.injEq] at H
  obtain ⟨rfl, rfl⟩ := H
  go_enter Try.func21, Try.ntmps21
  go_wp2_with (first | ((with_reducible refine gate_dst (N := 2) rfl ?_); refine box_event ?hg (N := 2) ?hd (cs := #[.int .i64 a0_0, .slice A0_1 l0_1.length c0_1, .slice A0_2 l0_2.length c0_2]) (t := 44) ?hr ?_; (case hd => rfl); (case hg => rfl); (case hr => first | (go_simp; done) | (go_simp; rfl)); intro zn hg w20 hbox hb; have za := aM (hbox); have zg := gE (w := w) hg (qB HB); have zb := zg; replace HB := bS (qB HB) hb; clear hb hbox hg; obtain ⟨hcz21_0, hcz21_1, hcz21_2, hfz21_0, hfz21_1, hfz21_2⟩ := blk3 za.out) | ((with_reducible refine gate_callee (f := 49) rfl ?_); refine goesL_ (some 12) rfl rfl Try.func49 (by kernel_rfl) rfl #[.agg #[.int .i64 a0_0, .slice A0_1 l0_1.length c0_1, .slice A0_2 l0_2.length c0_2]] rfl pA ?_; (with_reducible refine (view_right.calls k a0_0 _ _ l0_1 _ _ l0_2 true _ ?s1 ?s2 ?s3 ?s4 A3.out).mono ?_); (case s1 => exact sC ze HB); (case s2 => exact zf.out); (case s3 => exact sC zj HB); (case s4 => exact zm.out); rintro e w22 ⟨rfl, hb⟩; refine ⟨_, rfl, ?_⟩; replace za := bK za hb; replace HB := bS (qB1 HB zb) hb; (try clear hb); (try clear hk); (try clear hi); obtain ⟨hcz23_0, hcz23_1, hcz23_2, hfz23_0, hfz23_1, hfz23_2⟩ := blk3 za.out) | ((with_reducible refine gate_callee (f := 39) rfl ?_); refine goesL_ (some 18) rfl rfl Try.func39 (by kernel_rfl) rfl #[.slice A0_1 l0_1.length c0_1, .int .i64 a1] rfl pA ?_; (with_reducible refine (walk_At.calls k _ _ l0_1 a1 zc false _ ?s1 ?s2 A5.out).mono ?_); (case s1 => exact sC ze HB); (case s2 => exact zf.out); rintro e w24 ⟨v916, rfl, ho0, hb⟩; refine ⟨_, rfl, ?_⟩; have zo := aM (Kd.R_lower ho0 (below_size (qB1 HB zb))); replace za := bK za hb; replace HB := bS (qB1 HB zb) hb; (try clear hb); (try clear hk); (try clear hi); (try clear ho0)))
  go_ret2
  exact ⟨pE, qB1 HB zb⟩
 subst c6
 rw [if_pos rfl] at H
 have H' := aM H
 clear H
 go_enter Try.func21, Try.ntmps21
 go_wp2_with (first | ((with_reducible refine gate_dst (N := 2) rfl ?_); refine box_event ?hg (N := 2) ?hd (cs := #[.int .i64 a0_0, .slice A0_1 l0_1.length c0_1, .slice A0_2 l0_2.length c0_2]) (t := 44) ?hr ?_; (case hd => rfl); (case hg => rfl); (case hr => first | (go_simp; done) | (go_simp; rfl)); intro zn hg w7 hbox hb; have za := aM (hbox); have zg := gE (w := w) hg (qB HB); have zb := zg; replace HB := bS (qB HB) hb; clear hb hbox hg; obtain ⟨hcz8_0, hcz8_1, hcz8_2, hfz8_0, hfz8_1, hfz8_2⟩ := blk3 za.out) | ((with_reducible refine gate_callee (f := 49) rfl ?_); refine goesL_ (some 12) rfl rfl Try.func49 (by kernel_rfl) rfl #[.agg #[.int .i64 a0_0, .slice A0_1 l0_1.length c0_1, .slice A0_2 l0_2.length c0_2]] rfl pA ?_; (with_reducible refine (view_right.calls k a0_0 _ _ l0_1 _ _ l0_2 true _ ?s1 ?s2 ?s3 ?s4 A3.out).mono ?_); (case s1 => exact sC ze HB); (case s2 => exact zf.out); (case s3 => exact sC zj HB); (case s4 => exact zm.out); rintro e w9 ⟨rfl, hb⟩; refine ⟨_, rfl, ?_⟩; replace za := bK za hb; replace HB := bS (qB1 HB zb) hb; (try clear hb); (try clear hk); (try clear hi); obtain ⟨hcz10_0, hcz10_1, hcz10_2, hfz10_0, hfz10_1, hfz10_2⟩ := blk3 za.out) | ((with_reducible refine gate_callee (f := 39) rfl ?_); refine goesL_ (some 18) rfl rfl Try.func39 (by kernel_rfl) rfl #[.slice A0_1 l0_1.length c0_1, .int .i64 a1] rfl pA ?_; (with_reducible refine (walk_At.calls k _ _ l0_1 a1 zc true _ ?s1 ?s2 A5.out).mono ?_); (case s1 => exact sC ze HB); (case s2 => exact zf.out); rintro e w11 ⟨v916, rfl, ho0, hb⟩; refine ⟨_, rfl, ?_⟩; have zo := aM (Kd.R_lower ho0 (below_size (qB1 HB zb))); replace za := bK za hb; replace HB := bS (qB1 HB zb) hb; (try clear hb); (try clear hk); (try clear hi); (try clear ho0); obtain ⟨hcz12_0, hcz12_1, hcz12_2, hfz12_0, hfz12_1, hfz12_2⟩ := blk3 za.out; obtain ⟨Ao13, co13, eo13⟩ := Kd.R_slice zo.out; subst eo13))
 go_loopg [8, 27] k (fun kq v8 v27 w' => ∃ (x8_1 : Int) (x27_1 : Int), v8 = .int .i64 x8_1 ∧ v27 = .int .i64 x27_1 ∧ Aside0 (view_At.l0 kq x8_1 zc (zc.length : Int) x27_1 a0_0 l0_1 l0_2 = some (r1, r2)) ∧ Aside0 (kq ≤ k) ∧ Aside0 (Kd.R (Kd.int .i64) 3 w' w.heap.size (fun _ => True) (.slice Ao13 zc.length co13) zc) ∧ Aside0 (w'.heap[zn]? = some (.cells #[.int .i64 a0_0, (.slice A0_1 l0_1.length c0_1), (.slice A0_2 l0_2.length c0_2)] 44 (0, 0))) ∧ Aside0 (Below w.heap.size w w'))
 case atStart => exact ⟨(a0_0), (0), (pF), (pF), H', ⟨Nat.le_refl _⟩, ⟨pR zo.out⟩, ⟨pK za.out⟩, ⟨qB1 HB zb⟩⟩
 case round =>
  clear H'
  try clear c4
  try clear c6
  try clear hcz10_0 hcz10_1 hcz10_2 hcz12_0 hcz12_1 hcz12_2 hcz8_0 hcz8_1 hcz8_2 hfz10_0 hfz10_1 hfz10_2 hfz12_0 hfz12_1 hfz12_2 hfz8_0 hfz8_1 hfz8_2
  obtain ⟨x8_1, x27_1, rfl, rfl, HA, HK1, zk, za, HB⟩ := hrel
  cases gk with
  | zero => exact absurd HA.out (by simp [view_At.l0])
  | succ k1 =>
   have H := HA.out
   clear HA
   simp only [view_At.l0] at H
   by_cases c14 : x27_1 < (zc.length : Int)
   rotate_left
   ·rw [if_neg c14] at H
    have c14b0 : decide (x27_1 < (zc.length : Int)) = false := decide_eq_false c14
    clear c14
    simp only [Option.some.injEq, Prod.mk.injEq] at H
    obtain ⟨rfl, rfl⟩ := H
    go_wp2
    go_ret2
    exact ⟨pE, qB1 HB zb⟩
   rw [if_pos c14] at H
   have c14b0 : decide (x27_1 < (zc.length : Int)) = true := decide_eq_true c14
   clear c14
   by_cases c15 : 0 ≤ x27_1
   rotate_left
   ·rw [if_neg c15] at H
    exact absurd H (by simp)
   rw [if_pos c15] at H
   have c15b0 : decide (0 ≤ x27_1) = true := decide_eq_true c15
   clear c15
   by_cases c16 : x27_1 < (zc.length : Int)
   rotate_left
   ·rw [if_neg c16] at H
    exact absurd H (by simp)
   rw [if_pos c16] at H
   have c16b0 : decide (x27_1 < (zc.length : Int)) = true := decide_eq_true c16
   clear c16
   by_cases c17 : (rd zc x27_1) > 0
   rotate_left
   ·rw [if_neg c17] at H
    have c17b0 : decide (0 < (rd zc x27_1)) = false := decide_eq_false c17
    clear c17
    have H' := aM H
    clear H
    have p918 : 0 ≤ (x27_1 : Int) := of_decide_eq_true pD
    have q918 : x27_1 < (zc.length : Int) := of_decide_eq_true pD
    obtain ⟨ad918, e918, hx918_0⟩ := Kd.at_int (Kd.R_reads' zk.out).2.2 x27_1 p918 q918
    cases e918
    replace p918 := eq_true p918
    replace q918 := eq_true q918
    go_wp2
    go_roundg k1
    case measure => have := HK1.out; omega
    case rel => exact ⟨(x8_1), (wrap64 (x27_1 + 1)), (pF), (pF), H', ⟨by have := HK1.out; omega⟩, ⟨pR zk.out⟩, ⟨pK za.out⟩, ⟨qB1 HB zb⟩⟩
   rw [if_pos c17] at H
   have c17b0 : decide (0 < (rd zc x27_1)) = true := decide_eq_true c17
   clear c17
   by_cases c18 : x27_1 < (l0_2.length : Int)
   rotate_left
   ·rw [if_neg c18] at H
    exact absurd H (by simp)
   rw [if_pos c18] at H
   have c18b0 : decide (x27_1 < (l0_2.length : Int)) = true := decide_eq_true c18
   clear c18
   have H' := aM H
   clear H
   have p918 : 0 ≤ (x27_1 : Int) := of_decide_eq_true pD
   have q918 : x27_1 < (zc.length : Int) := of_decide_eq_true pD
   obtain ⟨ad918, e918, hx918_0⟩ := Kd.at_int (Kd.R_reads' zk.out).2.2 x27_1 p918 q918
   cases e918
   replace p918 := eq_true p918
   replace q918 := eq_true q918
   obtain ⟨hcz19_0, hcz19_1, hcz19_2, hfz19_0, hfz19_1, hfz19_2⟩ := blk3 za.out
   have p919 : 0 ≤ (x27_1 : Int) := of_decide_eq_true pD
   have q919 : x27_1 < (l0_2.length : Int) := of_decide_eq_true pD
   obtain ⟨ad919, e919, hx919_0⟩ := Kd.at_int zj.out x27_1 p919 q919
   cases e919
   replace hx919_0 := (HB.out.cell (World.block_lt_of_cell? w _ hx919_0)).trans hx919_0
   replace p919 := eq_true p919
   replace q919 := eq_true q919
   go_wp2
   go_roundg k1
   case measure => have := HK1.out; omega
   case rel => exact ⟨(wrap64 (x8_1 + (wrap64 ((rd zc x27_1) * (rd l0_2 x27_1))))), (wrap64 (x27_1 + 1)), (pF), (pF), H', ⟨by have := HK1.out; omega⟩, ⟨pR zk.out⟩, ⟨pK za.out⟩, ⟨qB1 HB zb⟩⟩
end Go.Proofs.Ytcdiobcldhiemaa.Q
namespace Gr
/-- How many elements dims have; 0, if they may not be. -/
def cnt (d : List Int) : Int := if chk d = 0 then prod d else 0
/-- Products of what stands behind. -/
def stp : List Int → List Int
  | [] => []
  | _ :: l => prod l :: stp l
def steps (d : List Int) : List Int := if chk d = 0 then stp d else []
/-- Are axes such as may be, those of 'seen' being taken? -/
def axv (rank : Int) : List Int → List Int → Bool
  | _, [] => true
  | seen, a :: l => decide (0 ≤ a) && decide (a < rank) && !(seen.contains a) && axv rank (seen ++ [a]) l
def marks (rank : Nat) (l : List Int) : List Bool := (List.range rank).map fun i : Nat => l.contains (i : Int)
def mks (rank : Nat) (l : List Int) : List Bool := (List.range rank).map fun i : Nat => l.isEmpty || l.contains (i : Int)
def axs (rank : Int) (l : List Int) : List Bool × Int :=
  if rank < 0 ∨ 6 < rank then ([], 9) else if axv rank [] l = true then (mks rank.toNat l, 0) else ([], 10)
def drp (keep : Bool) : List Bool → List Int → List Int
  | m :: ms, x :: xs => if m = true then (if keep = true then 1 :: drp keep ms xs else drp keep ms xs) else x :: drp keep ms xs
  | _, _ => []
def drop (d axes : List Int) (keep : Bool) : List Int × Int :=
  if chk d = 0 then (if (axs d.length axes).2 = 0 then (drp keep (axs d.length axes).1 d, 0) else ([], (axs d.length axes).2)) else ([], chk d)
def at0 (l : List Int) (i : Int) : Int := l.getD i.toNat 0
def prm (d axes : List Int) : List Int := axes.map fun a => at0 d a
def perm (d axes : List Int) : List Int × Int :=
  if chk d = 0 then (if axes.length = d.length ∧ (axs d.length axes).2 = 0 then (prm d axes, 0) else ([], 10)) else ([], chk d)
def withd (d : List Int) (axis size : Int) : List Int × Int :=
  if chk d = 0 then (if axis < 0 ∨ (d.length : Int) ≤ axis then ([], 10) else (if chk (d.set axis.toNat size) = 0 then (d.set axis.toNat size, 0) else ([], chk (d.set axis.toNat size)))) else ([], chk d)
theorem chk_ok {d : List Int} (h : chk d = 0) : d.length ≤ 6 ∧ (∀ x ∈ d, 1 ≤ x) ∧ prod d ≤ 64 := by
  unfold chk at h
  split at h
  · omega
  · rename_i h6
    split at h
    · omega
    · rename_i h1
      split at h
      · omega
      · rename_i h2
        refine ⟨by omega, fun x hx => ?_, by omega⟩
        rw [Bool.not_eq_true, List.any_eq_false] at h1
        have := h1 x hx
        simp at this
        omega
theorem ok_chk {d : List Int} (h6 : d.length ≤ 6) (h1 : ∀ x ∈ d, 1 ≤ x) (h2 : prod d ≤ 64) : chk d = 0 := by
  unfold chk
  rw [if_neg (by omega), if_neg, if_neg (by omega)]
  rw [Bool.not_eq_true, List.any_eq_false]
  intro x hx
  have := h1 x hx
  simp
  omega
theorem ok_le {d : List Int} (h : chk d = 0) : ∀ x ∈ d, x ≤ 64 := by
  obtain ⟨_, h1, h2⟩ := chk_ok h
  intro x hx
  obtain ⟨a, b, rfl⟩ := List.append_of_mem hx
  rw [prod_append] at h2
  simp only [prod] at h2
  have ha := prod_pos a (fun y hy => h1 y (by simp [hy]))
  have hb := prod_pos b (fun y hy => h1 y (by simp [hy]))
  have hx1 := h1 x (by simp)
  have h3 : 1 * (x * prod b) ≤ prod a * (x * prod b) := Int.mul_le_mul_of_nonneg_right ha (Int.mul_nonneg (by omega) (by omega))
  have h4 : x * 1 ≤ x * prod b := Int.mul_le_mul_of_nonneg_left hb (by omega)
  omega
theorem ok_drop {d : List Int} (h : chk d = 0) (i : Nat) : chk (d.drop i) = 0 := by
  obtain ⟨h6, h1, h2⟩ := chk_ok h
  refine ok_chk (by simp; omega) (fun x hx => h1 x (List.mem_of_mem_drop hx)) ?_
  have e : prod d = prod (d.take i) * prod (d.drop i) := by rw [← prod_append, List.take_append_drop]
  have ha := prod_pos (d.take i) (fun y hy => h1 y (List.mem_of_mem_take hy))
  have hb := prod_pos (d.drop i) (fun y hy => h1 y (List.mem_of_mem_drop hy))
  have h3 : 1 * prod (d.drop i) ≤ prod (d.take i) * prod (d.drop i) := Int.mul_le_mul_of_nonneg_right ha (by omega)
  omega
theorem ok_take {d : List Int} (h : chk d = 0) (i : Nat) : chk (d.take i) = 0 := by
  obtain ⟨h6, h1, h2⟩ := chk_ok h
  have := prod_take_le d h1 i
  exact ok_chk (by simp; omega) (fun x hx => h1 x (List.mem_of_mem_take hx)) (by omega)
theorem cnt_ok {d : List Int} (h : chk d = 0) : cnt d = prod d ∧ 1 ≤ cnt d ∧ cnt d ≤ 64 := by
  obtain ⟨h6, h1, h2⟩ := chk_ok h
  have := prod_pos d h1
  unfold cnt
  rw [if_pos h]
  exact ⟨rfl, this, h2⟩
theorem stp_length (d : List Int) : (stp d).length = d.length := by
  induction d with
  | nil => rfl
  | cons x d ih => simp [stp, ih]
theorem prod_perm {a b : List Int} (h : a.Perm b) : prod a = prod b := by
  induction h with
  | nil => rfl
  | cons x _ ih => simp [prod, ih]
  | swap x y l => simp only [prod]; rw [← Int.mul_assoc, ← Int.mul_assoc, Int.mul_comm x y]
  | trans _ _ ih1 ih2 => rw [ih1, ih2]
theorem perm_of_sub {l m : List Int} (hl : l.Nodup) (h : ∀ x ∈ l, x ∈ m) (hn : m.length ≤ l.length) : l.Perm m := by
  induction l generalizing m with
  | nil =>
    have : m = [] := List.eq_nil_of_length_eq_zero (by simp at hn; simp [hn])
    rw [this]
  | cons a l ih =>
    have ha : a ∈ m := h a (by simp)
    have hp := List.perm_cons_erase ha
    rw [List.nodup_cons] at hl
    have hle : (m.erase a).length = m.length - 1 := List.length_erase_of_mem ha
    refine (List.Perm.cons a (ih hl.2 (fun x hx => ?_) (by simp at hn; omega))).trans hp.symm
    have hx2 := h x (by simp [hx])
    refine (List.mem_erase_of_ne (fun e => ?_)).2 hx2
    exact hl.1 (e ▸ hx)
theorem axv_nodup (r : Int) (s l : List Int) (h : axv r s l = true) : l.Nodup ∧ ∀ a ∈ l, a ∉ s := by
  induction l generalizing s with
  | nil => simp
  | cons x l ih =>
    simp only [axv, Bool.and_eq_true, Bool.not_eq_true', decide_eq_true_eq] at h
    obtain ⟨h1, h2⟩ := ih _ h.2
    have hx : x ∉ s := by
      have := h.1.2
      simpa using this
    refine ⟨List.nodup_cons.2 ⟨fun hm => ?_, h1⟩, fun a ha => ?_⟩
    · exact h2 x hm (by simp)
    · rcases List.mem_cons.1 ha with rfl | ha
      · exact hx
      · intro hs; exact h2 a ha (by simp [hs])
theorem axv_all (r : Int) (s l : List Int) (h : axv r s l = true) : ∀ a ∈ l, 0 ≤ a ∧ a < r := by
  induction l generalizing s with
  | nil => simp
  | cons x l ih =>
    simp only [axv, Bool.and_eq_true, decide_eq_true_eq] at h
    intro a ha
    rcases List.mem_cons.1 ha with rfl | ha
    · exact ⟨h.1.1.1, h.1.1.2⟩
    · exact ih _ h.2 a ha
theorem axs_axv {d l : List Int} (h : (axs d.length l).2 = 0) : axv d.length [] l = true := by
  unfold axs at h
  split at h
  · simp at h
  · split at h
    · rename_i h2; exact h2
    · simp at h
theorem at0_range (d : List Int) : ((List.range d.length).map fun i : Nat => at0 d (i : Int)) = d := by
  apply List.ext_getElem (by simp)
  intro i h1 h2
  simp [at0, List.getD_eq_getElem?_getD, List.getElem?_eq_getElem h2]
theorem axes_perm {d l : List Int} (h : (axs d.length l).2 = 0) (hl : l.length = d.length) : l.Perm ((List.range d.length).map fun i : Nat => (i : Int)) := by
  have hv := axs_axv h
  refine perm_of_sub (axv_nodup _ _ _ hv).1 (fun x hx => ?_) (by simp [hl])
  obtain ⟨h0, h1⟩ := axv_all _ _ _ hv x hx
  simp only [List.mem_map, List.mem_range]
  exact ⟨x.toNat, by omega, by omega⟩
theorem prm_perm {d l : List Int} (h : (axs d.length l).2 = 0) (hl : l.length = d.length) : (prm d l).Perm d := by
  have := (axes_perm h hl).map (fun a => at0 d a)
  rw [List.map_map] at this
  have e : ((fun a => at0 d a) ∘ fun i : Nat => (i : Int)) = fun i : Nat => at0 d (i : Int) := rfl
  rw [e, at0_range] at this
  exact this
theorem chk_perm {a b : List Int} (h : a.Perm b) (hb : chk b = 0) : chk a = 0 := by
  obtain ⟨h6, h1, h2⟩ := chk_ok hb
  refine ok_chk (by rw [h.length_eq]; exact h6) (fun x hx => h1 x (h.mem_iff.1 hx)) (by rw [prod_perm h]; exact h2)
/-- The place of the n-th element. -/
def dig : List Int → Int → List Int
  | [], _ => []
  | x :: l, n => n / prod l % x :: dig l n
/-- The number of a place. -/
def num : List Int → List Int → Int
  | _ :: d, a :: r => a * prod d + num d r
  | _, _ => 0
/-- Is it a place of these dims? -/
def inb : List Int → List Int → Bool
  | [], [] => true
  | x :: d, a :: r => decide (0 ≤ a) && decide (a < x) && inb d r
  | _, _ => false
def ind (d at_ : List Int) : Bool := decide (chk d = 0) && inb d at_
def att (d : List Int) (n : Int) : List Int × Bool := if 0 ≤ n ∧ n < cnt d then (dig d n, true) else ([], false)
def plc (d at_ : List Int) : Int × Bool := if ind d at_ = true then (num d at_, true) else (0, false)
def alls (d : List Int) : List (List Int) := if chk d = 0 then (List.range (prod d).toNat).map fun n : Nat => dig d (n : Int) else []
theorem dig_length (d : List Int) (n : Int) : (dig d n).length = d.length := by
  induction d with
  | nil => rfl
  | cons x d ih => simp [dig, ih]
theorem num_dig (d : List Int) (h : ∀ x ∈ d, 1 ≤ x) (n : Int) : num d (dig d n) = n % prod d := by
  induction d with
  | nil => simp [num, prod, Int.emod_one]
  | cons x d ih =>
    have hx := h x (by simp)
    have hp := prod_pos d (fun y hy => h y (by simp [hy]))
    simp only [num, dig, prod]
    rw [ih (fun y hy => h y (by simp [hy]))]
    have e1 : x * prod d = prod d * x := Int.mul_comm ..
    have h1 := Int.emod_add_mul_ediv n (prod d)
    have h2 := Int.emod_add_mul_ediv (n / prod d) x
    have h3 : n = (n / prod d % x * prod d + n % prod d) + (x * prod d) * (n / prod d / x) := by
      have : prod d * (n / prod d) = prod d * (n / prod d % x) + prod d * (x * (n / prod d / x)) := by rw [← Int.mul_add, h2]
      rw [show (x * prod d) * (n / prod d / x) = prod d * (x * (n / prod d / x)) by rw [e1, Int.mul_assoc], Int.mul_comm (n / prod d % x)]
      omega
    have b1 := Int.emod_nonneg (n / prod d) (show x ≠ 0 by omega)
    have b2 := Int.emod_lt_of_pos (n / prod d) (show 0 < x by omega)
    have b3 := Int.emod_nonneg n (show prod d ≠ 0 by omega)
    have b4 := Int.emod_lt_of_pos n (show 0 < prod d by omega)
    have b5 : 0 ≤ n / prod d % x * prod d := Int.mul_nonneg b1 (by omega)
    have b6 : (n / prod d % x + 1) * prod d ≤ x * prod d := Int.mul_le_mul_of_nonneg_right (by omega) (by omega)
    rw [Int.add_mul] at b6
    have h4 := Int.add_mul_emod_self_left (n / prod d % x * prod d + n % prod d) (x * prod d) (n / prod d / x)
    rw [← h3] at h4
    rw [h4]
    exact (Int.emod_eq_of_lt (by omega) (by omega)).symm
theorem num_dig_lt (d : List Int) (h : ∀ x ∈ d, 1 ≤ x) (n : Int) (h0 : 0 ≤ n) (h1 : n < prod d) : num d (dig d n) = n := by
  rw [num_dig d h n, Int.emod_eq_of_lt h0 h1]
theorem inb_dig (d : List Int) (h : ∀ x ∈ d, 1 ≤ x) (n : Int) : inb d (dig d n) = true := by
  induction d with
  | nil => rfl
  | cons x d ih =>
    have hx := h x (by simp)
    simp only [inb, dig]
    rw [ih (fun y hy => h y (by simp [hy]))]
    have b1 := Int.emod_nonneg (n / prod d) (show x ≠ 0 by omega)
    have b2 := Int.emod_lt_of_pos (n / prod d) (show 0 < x by omega)
    simp [b1, b2]
theorem inb_length {d r : List Int} (h : inb d r = true) : r.length = d.length := by
  induction d generalizing r with
  | nil => cases r <;> simp_all [inb]
  | cons x d ih =>
    cases r with
    | nil => simp [inb] at h
    | cons a r =>
      simp only [inb, Bool.and_eq_true] at h
      simp [ih h.2]
theorem num_lt (d r : List Int) (h : ∀ x ∈ d, 1 ≤ x) (hi : inb d r = true) : 0 ≤ num d r ∧ num d r < prod d := by
  induction d generalizing r with
  | nil => cases r <;> simp [num, prod]
  | cons x d ih =>
    cases r with
    | nil => simp [inb] at hi
    | cons a r =>
      simp only [inb, Bool.and_eq_true, decide_eq_true_eq] at hi
      obtain ⟨i1, i2⟩ := ih r (fun y hy => h y (by simp [hy])) hi.2
      have hp := prod_pos d (fun y hy => h y (by simp [hy]))
      simp only [num, prod]
      have b5 : 0 ≤ a * prod d := Int.mul_nonneg hi.1.1 (by omega)
      have b6 : (a + 1) * prod d ≤ x * prod d := Int.mul_le_mul_of_nonneg_right (by omega) (by omega)
      rw [Int.add_mul] at b6
      omega
theorem dig_add (d : List Int) (h : ∀ x ∈ d, 1 ≤ x) (a m : Int) : dig d (a * prod d + m) = dig d m := by
  induction d generalizing a with
  | nil => rfl
  | cons y d ih =>
    have hy := h y (by simp)
    have hp := prod_pos d (fun z hz => h z (by simp [hz]))
    simp only [dig, prod]
    rw [show a * (y * prod d) = (a * y) * prod d by rw [Int.mul_assoc]]
    rw [ih (fun z hz => h z (by simp [hz])) (a * y)]
    rw [Int.add_comm ((a * y) * prod d) m, Int.add_mul_ediv_right _ _ (by omega), Int.mul_comm a y, Int.add_mul_emod_self_left]
theorem dig_num (d r : List Int) (h : ∀ x ∈ d, 1 ≤ x) (hi : inb d r = true) : dig d (num d r) = r := by
  induction d generalizing r with
  | nil => cases r <;> simp_all [inb, dig]
  | cons x d ih =>
    cases r with
    | nil => simp [inb] at hi
    | cons a r =>
      simp only [inb, Bool.and_eq_true, decide_eq_true_eq] at hi
      have hd : ∀ y ∈ d, 1 ≤ y := fun y hy => h y (by simp [hy])
      obtain ⟨i1, i2⟩ := num_lt d r hd hi.2
      have hp := prod_pos d hd
      simp only [num, dig]
      rw [dig_add d hd, ih r hd hi.2]
      rw [Int.add_comm, Int.add_mul_ediv_right _ _ (by omega), Int.ediv_eq_zero_of_lt i1 i2, Int.zero_add, Int.emod_eq_of_lt hi.1.1 hi.1.2]
theorem dig_snoc (p : List Int) (x : Int) (h : ∀ y ∈ p, 1 ≤ y) (hx : 1 ≤ x) (m : Int) : dig (p ++ [x]) m = dig p (m / x) ++ [m % x] := by
  induction p with
  | nil => simp [dig, prod]
  | cons y p ih =>
    simp only [List.cons_append, dig]
    rw [ih (fun z hz => h z (by simp [hz])), prod_append]
    simp only [prod, Int.mul_one]
    rw [Int.mul_comm (prod p) x, Int.ediv_ediv, if_neg (by omega), Int.sub_zero]
theorem range_mul {α : Type} (f : Nat → α) (P X : Nat) : (List.range (P * X)).map f = (List.range P).flatMap fun n => (List.range X).map fun v => f (n * X + v) := by
  induction P with
  | zero => simp
  | succ P ih =>
    rw [List.range_succ, List.flatMap_append, ← ih, Nat.succ_mul, List.range_add, List.map_append, List.map_map]
    simp only [List.flatMap_cons, List.flatMap_nil, List.append_nil]
    rfl
/-- All places of a prefix. -/
def pre (p : List Int) : List (List Int) := (List.range (prod p).toNat).map fun n : Nat => dig p (n : Int)
theorem pre_nil : pre [] = [[]] := by decide
theorem pre_snoc (p : List Int) (x : Int) (h : ∀ y ∈ p, 1 ≤ y) (hx : 1 ≤ x) : pre (p ++ [x]) = (pre p).flatMap fun q => (List.range x.toNat).map fun v : Nat => q ++ [(v : Int)] := by
  have hp := prod_pos p h
  unfold pre
  rw [prod_append]
  simp only [prod, Int.mul_one]
  rw [Int.toNat_mul (by omega) (by omega), range_mul, List.flatMap_map]
  congr 1
  funext n
  apply List.map_congr_left
  intro v hv
  rw [List.mem_range] at hv
  rw [dig_snoc p x h hx]
  have e : ((n * x.toNat + v : Nat) : Int) = (v : Int) + (n : Int) * x := by
    rw [Int.natCast_add, Int.natCast_mul, Int.toNat_of_nonneg (by omega)]; omega
  rw [e, Int.add_mul_ediv_right _ _ (by omega), Int.ediv_eq_zero_of_lt (by omega) (by omega), Int.zero_add, Int.add_mul_emod_self_right, Int.emod_eq_of_lt (by omega) (by omega)]
theorem pre_length (p : List Int) : (pre p).length = (prod p).toNat := by simp [pre]
theorem alls_ok {d : List Int} (h : chk d = 0) : alls d = pre d := by unfold alls; rw [if_pos h]; rfl
theorem alls_length (d : List Int) : ((alls d).length : Int) = cnt d := by
  unfold alls cnt
  split
  · rename_i h
    have := prod_pos d (chk_ok h).2.1
    simp; omega
  · rfl
theorem alls_get (d : List Int) (n : Nat) (h : n < (alls d).length) : (alls d)[n] = dig d (n : Int) := by
  unfold alls at h ⊢
  split
  · simp
  · rename_i hc; rw [if_neg hc] at h; simp at h
def inr (l : List Int) (m : Int) : Bool := l.all fun i => decide (0 ≤ i) && decide (i < m)
def putd (d : List Int) (n a : Int) (l : List Int) : List Int × Int :=
  if (withd d n a).2 = 0 then (if (l.length : Int) = at0 d n then (if inr l a = true then ((withd d n a).1, 0) else ([], 11)) else ([], 8)) else ([], (withd d n a).2)
def takd (d : List Int) (n : Int) (l : List Int) : List Int × Int :=
  if n < 0 ∨ (d.length : Int) ≤ n then ([], 10) else if inr l (at0 d n) = true then withd d n (l.length : Int) else ([], 11)
/-- Where an element goes, or comes from. -/
def mvp (n : Int) (l p : List Int) : List Int := p.set n.toNat (at0 l (at0 p n))
theorem inr_cons (x : Int) (l : List Int) (m : Int) : inr (x :: l) m = true ↔ (0 ≤ x ∧ x < m) ∧ inr l m = true := by
  simp [inr, List.all_cons]
theorem inr_a29 {l : List Int} {m : Int} (h : inr l m = true) (i : Nat) (hi : i < l.length) : 0 ≤ l[i] ∧ l[i] < m := by
  unfold inr at h
  rw [List.all_eq_true] at h
  simpa using h _ (List.getElem_mem hi)
theorem at0_g29 (l : List Int) (i : Nat) (h : i < l.length) : at0 l (i : Int) = l[i] := by
  simp [at0, List.getD_eq_getElem?_getD, List.getElem?_eq_getElem h]
theorem withd_o29 {d : List Int} {n a : Int} (h : (withd d n a).2 = 0) : chk d = 0 ∧ 0 ≤ n ∧ n < (d.length : Int) ∧ chk (d.set n.toNat a) = 0 ∧ withd d n a = (d.set n.toNat a, 0) := by
  unfold withd at h ⊢
  split at h
  · rename_i h1
    split at h
    · simp at h
    · rename_i h2
      split at h
      · rename_i h3
        exact ⟨h1, by omega, by omega, h3, by rw [if_pos h1, if_neg h2, if_pos h3]⟩
      · exact absurd h (by assumption)
  · exact absurd h (by assumption)
def plr (d r : List Int) : Int := if ind d r = true then num d r else -1
theorem inb_dropn (d r : List Int) (h : inb d r = true) (i : Nat) : inb (d.drop i) (r.drop i) = true := by
  induction i generalizing d r with
  | zero => simpa using h
  | succ i ih =>
    cases d with
    | nil => cases r <;> simp_all [inb]
    | cons x d =>
      cases r with
      | nil => simp [inb] at h
      | cons a r =>
        simp only [inb, Bool.and_eq_true] at h
        simpa using ih d r h.2
/-- How far a place lies from a view's first element. -/
def ofs : List Int → List Int → Int
  | a :: p, t :: s => a * t + ofs p s
  | _, _ => 0
/-- Are the steps such as may be in a room? -/
def sok (room : Int) : List Int → List Int → Bool
  | x :: d, t :: s => (decide (x ≤ 1) || (decide (-room < t) && decide (t < room))) && sok room d s
  | _, _ => true
def low : List Int → List Int → Int
  | x :: d, t :: s => (if (x - 1) * t < 0 then (x - 1) * t else 0) + low d s
  | _, _ => 0
def hgh : List Int → List Int → Int
  | x :: d, t :: s => (if (x - 1) * t < 0 then 0 else (x - 1) * t) + hgh d s
  | _, _ => 0
/-- All but the range of the cells. -/
abbrev vok (o : Int) (d s : List Int) (room : Int) : Prop := chk d = 0 ∧ s.length = d.length ∧ room ≤ 64 ∧ 0 ≤ o ∧ o < room ∧ sok room d s = true
def rgt (o : Int) (d s : List Int) (room : Int) : Bool := decide (vok o d s room) && decide (0 ≤ o + low d s) && decide (o + hgh d s < room)
def cls (o : Int) (d s : List Int) (room : Int) : List Int := if rgt o d s room = true then (alls d).map fun p => o + ofs p s else []
/-- The n-th element's cell. -/
def vat (o : Int) (d s : List Int) (n : Int) : Int × Bool := if rgt o d s 64 = true ∧ 0 ≤ n ∧ n < cnt d then (o + ofs (dig d n) s, true) else (0, false)
/-- One behind the other? -/
def row : List Int → Bool
  | [] => false
  | a :: l => decide (a :: l = (List.range (l.length + 1)).map fun i : Nat => a + (i : Int))
def rws : List Int → List Int → Bool
  | x :: d, t :: s => rws d s && (decide (x ≤ 1) || decide (t = prod d))
  | _, _ => true
theorem mem_alls {d : List Int} (h : chk d = 0) {p : List Int} : p ∈ alls d ↔ inb d p = true := by
  obtain ⟨h6, h1, h2⟩ := chk_ok h
  rw [alls_ok h]
  unfold pre
  rw [List.mem_map]
  constructor
  · rintro ⟨n, _, rfl⟩; exact inb_dig d h1 _
  · intro hi
    obtain ⟨q1, q2⟩ := num_lt d p h1 hi
    refine ⟨(num d p).toNat, ?_, ?_⟩
    · rw [List.mem_range]; omega
    · rw [Int.toNat_of_nonneg q1]; exact dig_num d p h1 hi
theorem mul_between {a x t : Int} (h0 : 0 ≤ a) (h1 : a ≤ x - 1) : (if (x - 1) * t < 0 then (x - 1) * t else 0) ≤ a * t ∧ a * t ≤ (if (x - 1) * t < 0 then 0 else (x - 1) * t) := by
  rcases Int.lt_or_le t 0 with ht | ht
  · have e1 : (x - 1) * t ≤ a * t := Int.mul_le_mul_of_nonpos_right h1 (by omega)
    have e2 : a * t ≤ 0 := Int.mul_nonpos_of_nonneg_of_nonpos h0 (by omega)
    split <;> omega
  · have e1 : a * t ≤ (x - 1) * t := Int.mul_le_mul_of_nonneg_right h1 ht
    have e2 : 0 ≤ a * t := Int.mul_nonneg h0 ht
    split <;> omega
theorem ofs_between (d s p : List Int) (hi : inb d p = true) : low d s ≤ ofs p s ∧ ofs p s ≤ hgh d s := by
  induction d generalizing s p with
  | nil => cases p <;> simp_all [inb, ofs, low, hgh]
  | cons x d ih =>
    cases p with
    | nil => simp [inb] at hi
    | cons a p =>
      simp only [inb, Bool.and_eq_true, decide_eq_true_eq] at hi
      cases s with
      | nil => simp [ofs, low, hgh]
      | cons t s =>
        obtain ⟨i1, i2⟩ := ih s p hi.2
        obtain ⟨j1, j2⟩ := mul_between (t := t) hi.1.1 (show a ≤ x - 1 by omega)
        simp only [ofs, low, hgh]
        omega
/-- The place of the lowest cell, and that of the highest one. -/
def lop : List Int → List Int → List Int
  | x :: d, t :: s => (if (x - 1) * t < 0 then x - 1 else 0) :: lop d s
  | _ :: d, [] => 0 :: lop d []
  | [], _ => []
def hip : List Int → List Int → List Int
  | x :: d, t :: s => (if (x - 1) * t < 0 then 0 else x - 1) :: hip d s
  | _ :: d, [] => 0 :: hip d []
  | [], _ => []
theorem lop_ok (d s : List Int) (h : ∀ x ∈ d, 1 ≤ x) : inb d (lop d s) = true ∧ ofs (lop d s) s = low d s := by
  induction d generalizing s with
  | nil => simp [lop, inb, ofs, low]
  | cons x d ih =>
    have hx := h x (by simp)
    cases s with
    | nil =>
      obtain ⟨i1, _⟩ := ih [] (fun y hy => h y (by simp [hy]))
      refine ⟨?_, by simp [lop, ofs, low]⟩
      simp [lop, inb, i1]; omega
    | cons t s =>
      obtain ⟨i1, i2⟩ := ih s (fun y hy => h y (by simp [hy]))
      simp only [lop, inb, ofs, low, i1, i2, Bool.and_true, Bool.and_eq_true, decide_eq_true_eq]
      split
      · exact ⟨⟨by omega, by omega⟩, rfl⟩
      · exact ⟨⟨by omega, by omega⟩, by simp⟩
theorem hip_ok (d s : List Int) (h : ∀ x ∈ d, 1 ≤ x) : inb d (hip d s) = true ∧ ofs (hip d s) s = hgh d s := by
  induction d generalizing s with
  | nil => simp [hip, inb, ofs, hgh]
  | cons x d ih =>
    have hx := h x (by simp)
    cases s with
    | nil =>
      obtain ⟨i1, _⟩ := ih [] (fun y hy => h y (by simp [hy]))
      refine ⟨?_, by simp [hip, ofs, hgh]⟩
      simp [hip, inb, i1]; omega
    | cons t s =>
      obtain ⟨i1, i2⟩ := ih s (fun y hy => h y (by simp [hy]))
      simp only [hip, inb, ofs, hgh, i1, i2, Bool.and_true, Bool.and_eq_true, decide_eq_true_eq]
      split
      · exact ⟨⟨by omega, by omega⟩, by simp⟩
      · exact ⟨⟨by omega, by omega⟩, rfl⟩
/-- All cells lie in the room just where the lowest and the highest do. -/
theorem range_iff {d : List Int} (h : chk d = 0) (o room : Int) (s : List Int) : (∀ p ∈ alls d, 0 ≤ o + ofs p s ∧ o + ofs p s < room) ↔ 0 ≤ o + low d s ∧ o + hgh d s < room := by
  have h1 := (chk_ok h).2.1
  constructor
  · intro ha
    obtain ⟨l1, l2⟩ := lop_ok d s h1
    obtain ⟨u1, u2⟩ := hip_ok d s h1
    have a1 := ha _ ((mem_alls h).2 l1)
    have a2 := ha _ ((mem_alls h).2 u1)
    rw [l2] at a1; rw [u2] at a2
    exact ⟨a1.1, a2.2⟩
  · rintro ⟨hl, hh⟩ p hp
    obtain ⟨i1, i2⟩ := ofs_between d s p ((mem_alls h).1 hp)
    omega
theorem rgt_iff {o : Int} {d s : List Int} {room : Int} (hv : vok o d s room) : rgt o d s room = true ↔ ∀ p ∈ alls d, 0 ≤ o + ofs p s ∧ o + ofs p s < room := by
  rw [range_iff hv.1]
  unfold rgt
  simp [hv]
theorem rgt_ok {o : Int} {d s : List Int} {room : Int} (h : rgt o d s room = true) : vok o d s room ∧ 0 ≤ o + low d s ∧ o + hgh d s < room := by
  unfold rgt at h
  simpa [and_assoc] using h
theorem sok_get {r : Int} {d s : List Int} (h : sok r d s = true) : ∀ i, (hd : i < d.length) → (hs : i < s.length) → d[i] ≤ 1 ∨ (-r < s[i] ∧ s[i] < r) := by
  induction d generalizing s with
  | nil => intro i hd; simp at hd
  | cons x d ih =>
    cases s with
    | nil => intro i _ hs; simp at hs
    | cons t s =>
      simp only [sok, Bool.and_eq_true, Bool.or_eq_true, decide_eq_true_eq] at h
      intro i hd hs
      cases i with
      | zero => exact h.1
      | succ i => exact ih h.2 i (by simpa using hd) (by simpa using hs)
theorem cls_ok {o : Int} {d s : List Int} {room : Int} (h : rgt o d s room = true) : cls o d s room = (alls d).map fun p => o + ofs p s := by unfold cls; rw [if_pos h]
theorem cls_none {o : Int} {d s : List Int} {room : Int} (h : ¬ rgt o d s room = true) : cls o d s room = [] := by unfold cls; rw [if_neg h]
theorem cls_length (o : Int) (d s : List Int) (room : Int) : ((cls o d s room).length : Int) = if rgt o d s room = true then cnt d else 0 := by
  unfold cls
  split
  · rw [List.length_map, alls_length]
  · rfl
theorem cls_pos (o : Int) (d s : List Int) (room : Int) : (0 < (cls o d s room).length) ↔ rgt o d s room = true := by
  have := cls_length o d s room
  constructor
  · intro h; apply Decidable.byContradiction; intro hc; rw [if_neg hc] at this; omega
  · intro h; rw [if_pos h] at this; have := (cnt_ok (rgt_ok h).1.1).2.1; omega
theorem cls_get {o : Int} {d s : List Int} {room : Int} (h : rgt o d s room = true) (n : Nat) (hn : n < (cls o d s room).length) : (cls o d s room)[n] = o + ofs (dig d (n : Int)) s := by
  have e := cls_ok h
  have hn' : n < (alls d).length := by rw [e, List.length_map] at hn; exact hn
  have : (cls o d s room)[n] = ((alls d).map fun p => o + ofs p s)[n]'(by rw [List.length_map]; exact hn') := by simp only [e]
  rw [this, List.getElem_map, alls_get d n hn']
theorem ofs_dig0 (d s : List Int) (h : ∀ x ∈ d, 1 ≤ x) : ofs (dig d 0) s = 0 := by
  induction d generalizing s with
  | nil => simp [dig, ofs]
  | cons x d ih =>
    cases s with
    | nil => simp [ofs]
    | cons t s => simp [dig, ofs, ih s (fun y hy => h y (by simp [hy]))]
theorem dig_mod (d : List Int) (h : ∀ x ∈ d, 1 ≤ x) (n : Int) : dig d n = dig d (n % prod d) := by
  have := dig_add d h (n / prod d) (n % prod d)
  rw [Int.mul_comm, Int.mul_ediv_add_emod] at this
  exact this
theorem rws_iff (d s : List Int) (h : ∀ x ∈ d, 1 ≤ x) (hl : s.length = d.length) : rws d s = true ↔ ∀ n : Int, 0 ≤ n → n < prod d → ofs (dig d n) s = n := by
  induction d generalizing s with
  | nil =>
    cases s with
    | nil =>
      simp only [rws, true_iff]
      intro n h0 h1
      simp only [prod] at h1
      simp [dig, ofs]; omega
    | cons t s => simp at hl
  | cons x d ih =>
    cases s with
    | nil => simp at hl
    | cons t s =>
      have hd : ∀ y ∈ d, 1 ≤ y := fun y hy => h y (by simp [hy])
      have hx := h x (by simp)
      have hp := prod_pos d hd
      have ih := ih s hd (by simpa using hl)
      simp only [rws, Bool.and_eq_true, Bool.or_eq_true, decide_eq_true_eq]
      constructor
      · rintro ⟨hr, ht⟩ n h0 h1
        simp only [prod] at h1
        have hr := ih.1 hr
        simp only [dig, ofs]
        rw [dig_mod d hd n, hr _ (Int.emod_nonneg _ (by omega)) (Int.emod_lt_of_pos _ (by omega))]
        have hq : n / prod d < x := Int.ediv_lt_of_lt_mul (by omega) h1
        have hq0 : 0 ≤ n / prod d := Int.ediv_nonneg h0 (by omega)
        rw [Int.emod_eq_of_lt hq0 hq]
        have hdm := Int.mul_ediv_add_emod n (prod d)
        rcases ht with ht | ht
        · have : n / prod d = 0 := by omega
          rw [this] at hdm ⊢; omega
        · rw [ht, Int.mul_comm]; omega
      · intro ha
        have hx1 : prod (x :: d) = x * prod d := rfl
        have hle : 1 * prod d ≤ x * prod d := Int.mul_le_mul_of_nonneg_right hx (by omega)
        refine ⟨ih.2 (fun n h0 h1 => ?_), ?_⟩
        · have := ha n h0 (by rw [hx1]; omega)
          simp only [dig, ofs] at this
          rw [Int.ediv_eq_zero_of_lt h0 h1, Int.zero_emod, Int.zero_mul, Int.zero_add] at this
          exact this
        · rcases Int.lt_or_le 1 x with hx2 | hx2
          · right
            have hle2 : 2 * prod d ≤ x * prod d := Int.mul_le_mul_of_nonneg_right (by omega) (by omega)
            have := ha (prod d) (by omega) (by rw [hx1]; omega)
            simp only [dig, ofs] at this
            rw [Int.ediv_self (by omega), Int.emod_eq_of_lt (by omega) hx2, Int.one_mul] at this
            have e := dig_mod d hd (prod d)
            rw [Int.emod_self] at e
            rw [e, ofs_dig0 d s hd] at this
            omega
          · left; exact hx2
theorem row_iff (l : List Int) : row l = true ↔ 0 < l.length ∧ ∀ i, (h : i < l.length) → l[i] = l[0] + (i : Int) := by
  cases l with
  | nil => simp [row]
  | cons a l =>
    simp only [row, decide_eq_true_eq]
    constructor
    · intro h
      refine ⟨by simp, fun i hi => ?_⟩
      have : (a :: l)[i]? = ((List.range (l.length + 1)).map fun i : Nat => a + (i : Int))[i]? := by rw [← h]
      rw [List.getElem?_eq_getElem hi, List.getElem?_map, List.getElem?_range (by simpa using hi)] at this
      simpa using this
    · rintro ⟨_, h⟩
      apply List.ext_getElem
      · simp
      · intro i h1 h2
        rw [h i h1]; simp
theorem rws_row {o : Int} {d s : List Int} (h : rgt o d s 64 = true) : rws d s = row (cls o d s 64) := by
  obtain ⟨hv, _, _⟩ := rgt_ok h
  obtain ⟨h6, h1, h2⟩ := chk_ok hv.1
  have hlen := cls_length o d s 64
  rw [if_pos h, (cnt_ok hv.1).1] at hlen
  have hp := prod_pos d h1
  have key : rws d s = true ↔ row (cls o d s 64) = true := by
    rw [rws_iff d s h1 hv.2.1, row_iff]
    constructor
    · intro ha
      refine ⟨by omega, fun i hi => ?_⟩
      rw [cls_get h, cls_get h, ha _ (by omega) (by omega), show (((0 : Nat) : Int)) = 0 from rfl, ofs_dig0 d s h1]
      omega
    · rintro ⟨_, ha⟩ n h0 hn
      obtain ⟨m, rfl⟩ := Int.eq_ofNat_of_zero_le h0
      have := ha m (by omega)
      rw [cls_get h, cls_get h, show (((0 : Nat) : Int)) = 0 from rfl, ofs_dig0 d s h1] at this
      omega
  rcases hb : rws d s with _ | _ <;> rcases hc : row (cls o d s 64) with _ | _ <;> simp_all
theorem stp_low (d : List Int) (h : ∀ x ∈ d, 1 ≤ x) : low d (stp d) = 0 ∧ hgh d (stp d) = prod d - 1 ∧ rws d (stp d) = true := by
  induction d with
  | nil => simp [low, hgh, rws, prod]
  | cons x d ih =>
    obtain ⟨i1, i2, i3⟩ := ih (fun y hy => h y (by simp [hy]))
    have hx := h x (by simp)
    have hp := prod_pos d (fun y hy => h y (by simp [hy]))
    have h0 : 0 ≤ (x - 1) * prod d := Int.mul_nonneg (by omega) (by omega)
    simp only [stp, low, hgh, rws, prod, i1, i2, i3]
    rw [if_neg (by omega), if_neg (by omega)]
    refine ⟨rfl, ?_, by simp⟩
    rw [Int.sub_mul]; omega
theorem stp_sok (d : List Int) (h : ∀ x ∈ d, 1 ≤ x) (hp64 : prod d ≤ 64) : sok 64 d (stp d) = true := by
  induction d with
  | nil => rfl
  | cons x d ih =>
    have hx := h x (by simp)
    have hp := prod_pos d (fun y hy => h y (by simp [hy]))
    simp only [prod] at hp64
    have hle : 1 * prod d ≤ x * prod d := Int.mul_le_mul_of_nonneg_right hx (by omega)
    simp only [stp, sok, Bool.and_eq_true, Bool.or_eq_true, decide_eq_true_eq]
    refine ⟨?_, ih (fun y hy => h y (by simp [hy])) (by omega)⟩
    rcases Int.lt_or_le 1 x with hx2 | hx2
    · have hle2 : 2 * prod d ≤ x * prod d := Int.mul_le_mul_of_nonneg_right (by omega) (by omega)
      right; omega
    · left; exact hx2
theorem whole_rgt {d : List Int} (h : chk d = 0) : rgt 0 d (stp d) 64 = true := by
  obtain ⟨h6, h1, h2⟩ := chk_ok h
  obtain ⟨i1, i2, i3⟩ := stp_low d h1
  unfold rgt vok
  simp [h, stp_length, stp_sok d h1 h2, i1, i2]
  omega
theorem whole_row {d : List Int} (h : chk d = 0) : row (cls 0 d (stp d) 64) = true := by
  rw [← rws_row (whole_rgt h)]; exact (stp_low d (chk_ok h).2.1).2.2
/-- Cells in a room say that the steps are such as may be. -/
theorem sok_of_cells (o r : Int) (d s : List Int) (h : ∀ x ∈ d, 1 ≤ x) (hl : s.length = d.length) (hc : ∀ p, inb d p = true → 0 ≤ o + ofs p s ∧ o + ofs p s < r) : sok r d s = true := by
  induction d generalizing s with
  | nil => cases s <;> rfl
  | cons x d ih =>
    cases s with
    | nil => simp at hl
    | cons t s =>
      have hx := h x (by simp)
      have hd : ∀ y ∈ d, 1 ≤ y := fun y hy => h y (by simp [hy])
      simp only [sok, Bool.and_eq_true, Bool.or_eq_true, decide_eq_true_eq]
      constructor
      · rcases Int.lt_or_le 1 x with hx2 | hx2
        · right
          have a0 := hc (0 :: dig d 0) (by simp [inb, inb_dig d hd 0]; omega)
          have a1 := hc (1 :: dig d 0) (by simp [inb, inb_dig d hd 0]; omega)
          simp only [ofs, ofs_dig0 d s hd] at a0 a1
          omega
        · left; exact hx2
      · refine ih s hd (by simpa using hl) (fun p hp => ?_)
        have := hc (0 :: p) (by simp [inb, hp]; omega)
        simp only [ofs, Int.zero_mul, Int.zero_add] at this
        exact this
/-- A view is right just where its cells lie in the room. -/
theorem rgt_cells (o : Int) (d s : List Int) (r : Int) : rgt o d s r = true ↔ chk d = 0 ∧ s.length = d.length ∧ r ≤ 64 ∧ ∀ p, inb d p = true → 0 ≤ o + ofs p s ∧ o + ofs p s < r := by
  constructor
  · intro h
    obtain ⟨hv, _, _⟩ := rgt_ok h
    exact ⟨hv.1, hv.2.1, hv.2.2.1, fun p hp => (rgt_iff hv).1 h p ((mem_alls hv.1).2 hp)⟩
  · rintro ⟨h1, h2, h3, h4⟩
    have hd := (chk_ok h1).2.1
    have h0 := h4 (dig d 0) (inb_dig d hd 0)
    rw [ofs_dig0 d s hd, Int.add_zero] at h0
    have hv : vok o d s r := ⟨h1, h2, h3, h0.1, h0.2, sok_of_cells o r d s hd h2 h4⟩
    exact (rgt_iff hv).2 (fun p hp => h4 p ((mem_alls h1).1 hp))
/-- A view whose elements are elements of another one. -/
theorem rgt_sub {o o' : Int} {d d' s s' : List Int} {r : Int} (h : rgt o d s r = true) (hc : chk d' = 0) (hl : s'.length = d'.length) (hp : ∀ p, inb d' p = true → ∃ q, inb d q = true ∧ o' + ofs p s' = o + ofs q s) : rgt o' d' s' r = true := by
  obtain ⟨_, _, h3, h4⟩ := (rgt_cells _ _ _ _).1 h
  refine (rgt_cells _ _ _ _).2 ⟨hc, hl, h3, fun p hi => ?_⟩
  obtain ⟨q, hq, e⟩ := hp p hi
  rw [e]; exact h4 q hq
theorem ofs_set (p s : List Int) (i : Nat) (h : i < p.length) (hs : i < s.length) (a t : Int) : ofs (p.set i a) (s.set i t) = ofs p s - p[i] * s[i] + a * t := by
  induction p generalizing s i with
  | nil => simp at h
  | cons b p ih =>
    cases s with
    | nil => simp at hs
    | cons u s =>
      cases i with
      | zero => simp [ofs]; omega
      | succ i =>
        have := ih s i (by simpa using h) (by simpa using hs)
        simp only [List.set_cons_succ, ofs, List.getElem_cons_succ, this]
        omega
theorem inb_get {d p : List Int} (hi : inb d p = true) (i : Nat) (h : i < d.length) (hp : i < p.length) : 0 ≤ p[i] ∧ p[i] < d[i] := by
  induction d generalizing p i with
  | nil => simp at h
  | cons x d ih =>
    cases p with
    | nil => simp [inb] at hi
    | cons b p =>
      simp only [inb, Bool.and_eq_true, decide_eq_true_eq] at hi
      cases i with
      | zero => exact hi.1
      | succ i => exact ih hi.2 i (by simpa using h) (by simpa using hp)
/-- Flip: offset, dims, steps, error. -/
def flp (o : Int) (d s : List Int) (a : Int) : Int × List Int × List Int × Int :=
  if rgt o d s 64 = true then (if a < 0 ∨ (d.length : Int) ≤ a then (0, [], [], 10) else if 1 < at0 d a then (o + (at0 d a - 1) * at0 s a, d, s.set a.toNat (-(at0 s a)), 0) else (o, d, s, 0)) else (0, [], [], 1)
theorem flp_ofs (o : Int) (d s p : List Int) (i : Nat) (h : i < d.length) (hs : s.length = d.length) (hi : inb d p = true) :
    o + (at0 d (i : Int) - 1) * at0 s (i : Int) + ofs p (s.set i (-(at0 s (i : Int)))) = o + ofs (p.set i (at0 d (i : Int) - 1 - at0 p (i : Int))) s := by
  have hp := inb_length hi
  have e1 := ofs_set p s i (by omega) (by omega) p[i] (-(at0 s (i : Int)))
  have e2 := ofs_set p s i (by omega) (by omega) (at0 d (i : Int) - 1 - at0 p (i : Int)) s[i]
  rw [List.set_getElem_self] at e1 e2
  have a1 : at0 s (i : Int) = s[i] := by simp [at0, List.getD_eq_getElem?_getD, List.getElem?_eq_getElem (show i < s.length by omega)]
  have a2 : at0 p (i : Int) = p[i] := by simp [at0, List.getD_eq_getElem?_getD, List.getElem?_eq_getElem (show i < p.length by omega)]
  rw [e1, e2, a1, a2, Int.sub_mul (at0 d (i : Int) - 1), Int.mul_neg]
  omega
def pmt (o : Int) (d s axes : List Int) : Int × List Int × List Int × Int :=
  if rgt o d s 64 = true then (if (perm d axes).2 = 0 then (o, prm d axes, prm s axes, 0) else (0, [], [], (perm d axes).2)) else (0, [], [], 1)
theorem at0_get (l : List Int) (i : Nat) (h : i < l.length) : at0 l (i : Int) = l[i] := by
  simp [at0, List.getD_eq_getElem?_getD, List.getElem?_eq_getElem h]
theorem at0_set_same (l : List Int) (i : Nat) (h : i < l.length) (x : Int) : at0 (l.set i x) (i : Int) = x := by
  rw [at0_get _ _ (by simpa using h), List.getElem_set_self]
theorem at0_set_other (l : List Int) (i j : Nat) (h : i ≠ j) (x : Int) : at0 (l.set i x) (j : Int) = at0 l (j : Int) := by
  simp [at0, List.getD_eq_getElem?_getD, List.getElem?_set_ne h]
theorem at0_ext {a b : List Int} (hl : a.length = b.length) (h : ∀ j : Nat, j < a.length → at0 a (j : Int) = at0 b (j : Int)) : a = b := by
  apply List.ext_getElem hl
  intro j h1 h2
  have := h j h1
  rwa [at0_get _ _ h1, at0_get _ _ h2] at this
theorem prm_length (d l : List Int) : (prm d l).length = l.length := by simp [prm]
theorem at0_prm (d l : List Int) (k : Nat) (h : k < l.length) : at0 (prm d l) (k : Int) = at0 d (at0 l (k : Int)) := by
  rw [at0_get _ _ (by rw [prm_length]; exact h), at0_get _ _ h]
  simp [prm]
theorem inb_iff (d p : List Int) : inb d p = true ↔ p.length = d.length ∧ ∀ j : Nat, j < d.length → 0 ≤ at0 p (j : Int) ∧ at0 p (j : Int) < at0 d (j : Int) := by
  constructor
  · intro h
    have hl := inb_length h
    refine ⟨hl, fun j hj => ?_⟩
    rw [at0_get p j (by omega), at0_get d j hj]
    exact inb_get h j hj (by omega)
  · rintro ⟨hl, h⟩
    induction d generalizing p with
    | nil => cases p <;> simp_all [inb]
    | cons x d ih =>
      cases p with
      | nil => simp at hl
      | cons a p =>
        have h0 := h 0 (by simp)
        simp [at0] at h0
        simp only [inb, Bool.and_eq_true, decide_eq_true_eq]
        refine ⟨h0, ih p (by simpa using hl) (fun j hj => ?_)⟩
        have := h (j + 1) (by simpa using hj)
        simpa [at0] using this
/-- A permutation of the axes. -/
structure Pm (l : List Int) : Prop where
  nodup : l.Nodup
  range : ∀ a ∈ l, 0 ≤ a ∧ a < (l.length : Int)
  all : ∀ j : Nat, j < l.length → (j : Int) ∈ l
theorem pm_of {d l : List Int} (h : (axs d.length l).2 = 0) (hl : l.length = d.length) : Pm l := by
  have hv := axs_axv h
  have hp := axes_perm h hl
  refine ⟨(axv_nodup _ _ _ hv).1, fun a ha => ?_, fun j hj => ?_⟩
  · have := axv_all _ _ _ hv a ha; rw [hl]; exact this
  · rw [hp.mem_iff]
    simp only [List.mem_map, List.mem_range]
    exact ⟨j, by omega, rfl⟩
theorem pm_perm {l : List Int} (h : Pm l) : l.Perm ((List.range l.length).map fun i : Nat => (i : Int)) :=
  perm_of_sub h.nodup (fun x hx => by
    obtain ⟨h0, h1⟩ := h.range x hx
    simp only [List.mem_map, List.mem_range]
    exact ⟨x.toNat, by omega, by omega⟩) (by simp)
/-- Axes put back: one after the other. -/
def bks (n : Nat) : List Int → Nat → List Int → List Int
  | [], _, out => out
  | a :: l, i, out => bks n l (i + 1) (if 0 ≤ a ∧ a < (n : Int) then out.set a.toNat (i : Int) else out)
def bk (l : List Int) : List Int := bks l.length l 0 (List.replicate l.length 0)
theorem bks_length (n : Nat) (l : List Int) (i : Nat) (out : List Int) : (bks n l i out).length = out.length := by
  induction l generalizing i out with
  | nil => rfl
  | cons a l ih => rw [bks, ih]; split <;> simp
theorem bk_length (l : List Int) : (bk l).length = l.length := by unfold bk; rw [bks_length]; simp
theorem bks_other (n : Nat) (l : List Int) (i : Nat) (out : List Int) (j : Nat) (h : (j : Int) ∉ l) : at0 (bks n l i out) (j : Int) = at0 out (j : Int) := by
  induction l generalizing i out with
  | nil => rfl
  | cons a l ih =>
    rw [bks, ih _ _ (fun hm => h (by simp [hm]))]
    split
    · rename_i ha
      exact at0_set_other _ _ _ (fun e => h (by simp; omega)) _
    · rfl
theorem bks_at (n : Nat) (l : List Int) (hd : l.Nodup) (hr : ∀ a ∈ l, 0 ≤ a ∧ a < (n : Int)) (i : Nat) (out : List Int) (ho : out.length = n) : ∀ m, (h : m < l.length) → at0 (bks n l i out) l[m] = ((i + m : Nat) : Int) := by
  induction l generalizing i out with
  | nil => intro m h; simp at h
  | cons a l ih =>
    rw [List.nodup_cons] at hd
    have ha := hr a (by simp)
    intro m h
    rw [bks, if_pos ha]
    cases m with
    | zero =>
      simp only [List.getElem_cons_zero, Nat.add_zero]
      obtain ⟨j, rfl⟩ := Int.eq_ofNat_of_zero_le ha.1
      rw [bks_other _ _ _ _ _ hd.1, Int.toNat_natCast, at0_set_same _ _ (by omega)]
    | succ m =>
      rw [List.getElem_cons_succ, ih hd.2 (fun x hx => hr x (by simp [hx])) (i + 1) _ (by simp [ho]) m (by simpa using h)]
      rw [show i + 1 + m = i + (m + 1) by omega]
theorem bk_at {l : List Int} (h : Pm l) (m : Nat) (hm : m < l.length) : at0 (bk l) (at0 l (m : Int)) = (m : Int) := by
  rw [at0_get l m hm]
  have := bks_at l.length l h.nodup h.range 0 (List.replicate l.length 0) (by simp) m hm
  rw [Nat.zero_add] at this
  exact this
theorem pm_back {l : List Int} (h : Pm l) (j : Nat) (hj : j < l.length) : ∃ m : Nat, m < l.length ∧ at0 l (m : Int) = (j : Int) ∧ at0 (bk l) (j : Int) = (m : Int) := by
  obtain ⟨m, hm, e⟩ := List.getElem_of_mem (h.all j hj)
  have e' : at0 l (m : Int) = (j : Int) := by rw [at0_get l m hm]; exact e
  exact ⟨m, hm, e', by rw [← e', bk_at h m hm]⟩
theorem bk_prm {l : List Int} (h : Pm l) (x : List Int) (hx : x.length = l.length) : prm (prm x (bk l)) l = x := by
  apply at0_ext (by rw [prm_length, hx])
  intro m hm
  rw [prm_length] at hm
  have hr := h.range (l[m]) (List.getElem_mem hm)
  rw [at0_prm _ _ _ hm, at0_get l m hm]
  obtain ⟨j, hj⟩ := Int.eq_ofNat_of_zero_le hr.1
  have hjl : j < l.length := by omega
  rw [hj, at0_prm _ _ _ (by rw [bk_length]; exact hjl)]
  have := bk_at h m hm
  rw [at0_get l m hm, hj] at this
  rw [this]
theorem ofs_sum (p s : List Int) (h : p.length = s.length) : ofs p s = ((List.range p.length).map fun j : Nat => at0 p (j : Int) * at0 s (j : Int)).sum := by
  induction p generalizing s with
  | nil => simp [ofs]
  | cons a p ih =>
    cases s with
    | nil => simp at h
    | cons t s =>
      rw [ofs, ih s (by simpa using h), List.length_cons, List.range_succ_eq_map, List.map_cons, List.map_map, List.sum_cons]
      congr 1
theorem sum_perm {a b : List Int} (h : a.Perm b) : a.sum = b.sum := by
  induction h with
  | nil => rfl
  | cons x _ ih => simp [ih]
  | swap x y l => simp only [List.sum_cons]; omega
  | trans _ _ ih1 ih2 => rw [ih1, ih2]
theorem ofs_prm {l : List Int} (h : Pm l) (p s : List Int) (hp : p.length = l.length) (hs : s.length = l.length) : ofs (prm p l) (prm s l) = ofs p s := by
  rw [ofs_sum _ _ (by rw [prm_length, prm_length]), ofs_sum _ _ (by omega), prm_length, hp]
  have e1 : ((List.range l.length).map fun j : Nat => at0 (prm p l) (j : Int) * at0 (prm s l) (j : Int)) = l.map fun a => at0 p a * at0 s a := by
    apply List.ext_getElem (by simp)
    intro j h1 h2
    rw [List.length_map] at h2
    simp only [List.getElem_map, List.getElem_range]
    rw [at0_prm _ _ _ h2, at0_prm _ _ _ h2, at0_get l j h2]
  rw [e1, sum_perm ((pm_perm h).map fun a => at0 p a * at0 s a), List.map_map]
  rfl
theorem inb_prm {l : List Int} (h : Pm l) (d q : List Int) (hd : d.length = l.length) (hi : inb (prm d l) q = true) : inb d (prm q (bk l)) = true := by
  obtain ⟨hl, hq⟩ := (inb_iff _ _).1 hi
  rw [prm_length] at hl hq
  refine (inb_iff _ _).2 ⟨by rw [prm_length, bk_length, hd], fun j hj => ?_⟩
  obtain ⟨m, hm, e1, e2⟩ := pm_back h j (by omega)
  have := hq m hm
  rw [at0_prm _ _ _ hm, e1] at this
  rw [at0_prm _ _ _ (by rw [bk_length]; omega), e2]
  exact this
theorem pmt_ofs {l : List Int} (h : Pm l) (s q : List Int) (hs : s.length = l.length) (hq : q.length = l.length) : ofs q (prm s l) = ofs (prm q (bk l)) s := by
  have := ofs_prm h (prm q (bk l)) s (by rw [prm_length, bk_length]) hs
  rw [bk_prm h q hq] at this
  exact this
theorem perm_ok {d l : List Int} (h : (perm d l).2 = 0) : chk d = 0 ∧ Pm l ∧ l.length = d.length ∧ chk (prm d l) = 0 ∧ (perm d l).1 = prm d l := by
  unfold perm at h ⊢
  split at h
  · rename_i h1
    split at h
    · rename_i h2
      rw [if_pos h1, if_pos h2]
      exact ⟨h1, pm_of h2.2 h2.1, h2.1, chk_perm (prm_perm h2.2 h2.1) h1, rfl⟩
    · simp at h
  · rename_i h1; exact absurd h h1
def mx (a b : Int) : Int := if a < b then b else a
/-- Dims with 1 ahead, n in all. -/
def pad (n : Nat) (l : List Int) : List Int := List.replicate (n - l.length) 1 ++ l
/-- Do they go together, one by one? -/
def fitz : List Int → List Int → Bool
  | x :: a, y :: b => (x == y || x == 1 || y == 1) && fitz a b
  | _, _ => true
def mxs : List Int → List Int → List Int
  | x :: a, y :: b => mx x y :: mxs a b
  | _, _ => []
def tw (p q : List Int) : List Int × Int := if fitz p q = true then (if chk (mxs p q) = 0 then (mxs p q, 0) else ([], chk (mxs p q))) else ([], 8)
def rank2 (a b : List Int) : Nat := max a.length b.length
def two (a b : List Int) : List Int × Int :=
  if chk a = 0 then (if chk b = 0 then tw (pad (rank2 a b) a) (pad (rank2 a b) b) else ([], chk b)) else ([], chk a)
def fts (a b : List Int) : Bool := decide ((two a b).2 = 0) && decide ((two a b).1 = b)
/-- The place that is spread to one. -/
def sat : List Int → List Int → List Int
  | x :: f, v :: q => (if x = 1 then 0 else v) :: sat f q
  | _, _ => []
def src (a b : List Int) (n : Int) : Int := num a (sat a ((dig b n).drop (b.length - a.length)))
def srcs (a b : List Int) : List Int := if fts a b = true then (alls b).map fun p => num a (sat a (p.drop (b.length - a.length))) else []
theorem pad_length (n : Nat) (l : List Int) (h : l.length ≤ n) : (pad n l).length = n := by simp [pad]; omega
theorem pad_self (l : List Int) : pad l.length l = l := by simp [pad]
theorem mxs_length (a b : List Int) (h : a.length = b.length) : (mxs a b).length = a.length := by
  induction a generalizing b with
  | nil => cases b <;> simp [mxs]
  | cons x a ih =>
    cases b with
    | nil => simp at h
    | cons y b => simp [mxs, ih b (by simpa using h)]
theorem fitz_drop (a b : List Int) (i : Nat) (h : fitz a b = true) : fitz (a.drop i) (b.drop i) = true := by
  induction i generalizing a b with
  | zero => simpa using h
  | succ i ih =>
    cases a with
    | nil => simp [fitz]
    | cons x a =>
      cases b with
      | nil => simp [fitz]
      | cons y b =>
        simp only [fitz, Bool.and_eq_true] at h
        simpa using ih a b h.2
theorem pad_at (n : Nat) (l : List Int) (h : l.length ≤ n) (i : Nat) (hi : i < n) :
    (pad n l)[i]'(by rw [pad_length n l h]; exact hi) = if h2 : n - l.length ≤ i then l[i - (n - l.length)]'(by omega) else 1 := by
  unfold pad
  split
  · rename_i h2
    rw [List.getElem_append_right (by simpa using h2)]
    simp
  · rename_i h2
    rw [List.getElem_append_left (by simp; omega)]
    simp
/-- f is 1 or t, everywhere. -/
def sub : List Int → List Int → Bool
  | x :: f, y :: t => (x == 1 || x == y) && sub f t
  | [], [] => true
  | _, _ => false
theorem sub_iff (f t : List Int) (hl : f.length = t.length) (hf : ∀ x ∈ f, 1 ≤ x) (ht : ∀ x ∈ t, 1 ≤ x) : sub f t = true ↔ fitz f t = true ∧ mxs f t = t := by
  induction f generalizing t with
  | nil => cases t <;> simp_all [sub, fitz, mxs]
  | cons x f ih =>
    cases t with
    | nil => simp at hl
    | cons y t =>
      have h1 := hf x (by simp)
      have h2 := ht y (by simp)
      have := ih t (by simpa using hl) (fun z hz => hf z (by simp [hz])) (fun z hz => ht z (by simp [hz]))
      simp only [sub, fitz, mxs, Bool.and_eq_true, Bool.or_eq_true, beq_iff_eq, List.cons.injEq, this]
      constructor
      · rintro ⟨h | h, h3, h4⟩
        · exact ⟨⟨.inl (.inr h), h3⟩, by unfold mx; split <;> omega, h4⟩
        · exact ⟨⟨.inl (.inl h), h3⟩, by unfold mx; split <;> omega, h4⟩
      · rintro ⟨⟨h, h3⟩, h5, h4⟩
        unfold mx at h5
        refine ⟨?_, h3, h4⟩
        split at h5
        · rcases h with (h | h) | h
          · exact .inr h
          · exact .inl h
          · omega
        · exact .inr h5
theorem pad_pos (n : Nat) (l : List Int) (h : ∀ x ∈ l, 1 ≤ x) : ∀ x ∈ pad n l, 1 ≤ x := by
  intro x hx
  unfold pad at hx
  rcases List.mem_append.1 hx with hx | hx
  · have := List.eq_of_mem_replicate hx; omega
  · exact h x hx
/-- What 'fits' says. -/
theorem fts_iff (a b : List Int) : fts a b = true ↔ chk a = 0 ∧ chk b = 0 ∧ a.length ≤ b.length ∧ sub (pad b.length a) b = true := by
  unfold fts
  simp only [Bool.and_eq_true, decide_eq_true_eq]
  constructor
  · rintro ⟨h1, h2⟩
    unfold two at h1 h2
    split at h1
    · rename_i ha
      rw [if_pos ha] at h2
      split at h1
      · rename_i hb
        rw [if_pos hb] at h2
        unfold tw at h1 h2
        split at h1
        · rename_i hf
          rw [if_pos hf] at h2
          split at h1
          · rename_i hc
            rw [if_pos hc] at h2
            simp only at h2
            have hl := mxs_length (pad (rank2 a b) a) (pad (rank2 a b) b) (by rw [pad_length, pad_length] <;> unfold rank2 <;> omega)
            rw [h2, pad_length _ _ (by unfold rank2; omega)] at hl
            have hle : a.length ≤ b.length := by unfold rank2 at hl; omega
            rw [← hl, pad_self] at hf h2
            refine ⟨ha, hb, hle, (sub_iff _ _ (pad_length _ _ hle) (pad_pos _ _ (chk_ok ha).2.1) (chk_ok hb).2.1).2 ⟨hf, h2⟩⟩
          · rename_i hc; exact absurd h1 hc
        · simp at h1
      · rename_i hb; exact absurd h1 hb
    · rename_i ha; exact absurd h1 ha
  · rintro ⟨ha, hb, hle, hs⟩
    obtain ⟨s1, s2⟩ := (sub_iff _ _ (pad_length _ _ hle) (pad_pos _ _ (chk_ok ha).2.1) (chk_ok hb).2.1).1 hs
    have e : two a b = (b, 0) := by
      unfold two
      have hr : rank2 a b = b.length := by unfold rank2; omega
      rw [if_pos ha, if_pos hb, hr, pad_self]
      unfold tw
      rw [if_pos s1, s2, if_pos hb]
    rw [e]; exact ⟨rfl, rfl⟩
theorem sub_drop {f t : List Int} (h : sub f t = true) (i : Nat) : sub (f.drop i) (t.drop i) = true := by
  induction i generalizing f t with
  | zero => simpa using h
  | succ i ih =>
    cases f with
    | nil => cases t <;> simp_all [sub]
    | cons x f =>
      cases t with
      | nil => simp [sub] at h
      | cons y t =>
        simp only [sub, Bool.and_eq_true] at h
        simpa using ih h.2
theorem pad_drop (n : Nat) (l : List Int) : (pad n l).drop (n - l.length) = l := by
  unfold pad
  rw [List.drop_append_of_le_length (by simp)]
  simp
theorem inb_sat (f t q : List Int) (hs : sub f t = true) (hf : ∀ x ∈ f, 1 ≤ x) (hq : inb t q = true) : inb f (sat f q) = true := by
  induction f generalizing t q with
  | nil => cases t <;> cases q <;> simp_all [sub, inb, sat]
  | cons x f ih =>
    cases t with
    | nil => simp [sub] at hs
    | cons y t =>
      cases q with
      | nil => simp [inb] at hq
      | cons v q =>
        have h1 := hf x (by simp)
        simp only [sub, Bool.and_eq_true, Bool.or_eq_true, beq_iff_eq] at hs
        simp only [inb, Bool.and_eq_true, decide_eq_true_eq] at hq
        simp only [inb, sat, Bool.and_eq_true, decide_eq_true_eq]
        refine ⟨?_, ih t q hs.2 (fun z hz => hf z (by simp [hz])) hq.2⟩
        split <;> omega
theorem inb_drop {d r : List Int} (h : inb d r = true) (i : Nat) : inb (d.drop i) (r.drop i) = true := by
  induction i generalizing d r with
  | zero => simpa using h
  | succ i ih =>
    cases d with
    | nil => cases r <;> simp_all [inb]
    | cons x d =>
      cases r with
      | nil => simp [inb] at h
      | cons y r =>
        simp only [inb, Bool.and_eq_true] at h
        simpa using ih h.2
theorem src_in {a b : List Int} (h : fts a b = true) (n : Int) : inb a (sat a ((dig b n).drop (b.length - a.length))) = true := by
  obtain ⟨h1, h2, h3, h4⟩ := (fts_iff a b).1 h
  have hs := sub_drop h4 (b.length - a.length)
  rw [pad_drop] at hs
  exact inb_sat a _ _ hs (chk_ok h1).2.1 (inb_drop (inb_dig b (chk_ok h2).2.1 n) _)
theorem srcs_length (a b : List Int) (h : fts a b = true) : ((srcs a b).length : Int) = cnt b := by
  unfold srcs
  rw [if_pos h, List.length_map, alls_length]
theorem srcs_get (a b : List Int) (h : fts a b = true) (n : Nat) (hn : n < (srcs a b).length) : (srcs a b)[n] = src a b (n : Int) := by
  have e : srcs a b = (alls b).map fun p => num a (sat a (p.drop (b.length - a.length))) := by unfold srcs; rw [if_pos h]
  simp only [e, List.getElem_map, alls_get]
  rfl
/-- The elements that a map of places picks. -/
def nums (d d' : List Int) (f : List Int → List Int) : List Int := (alls d').map fun p => num d (f p)
def rsp (d to_ : List Int) : List Int × List Int × Int :=
  if chk to_ = 0 then (if cnt to_ = cnt d then (to_, (List.range (cnt d).toNat).map fun i : Nat => (i : Int), 0) else ([], [], 8)) else ([], [], chk to_)
def rpm (d axes : List Int) : List Int × List Int × Int :=
  if (perm d axes).2 = 0 then (prm d axes, nums d (prm d axes) fun q => prm q (bk axes), 0) else ([], [], (perm d axes).2)
def tkf (axis : Int) (marks p : List Int) : List Int := p.set axis.toNat (at0 marks (at0 p axis))
def rtk (d : List Int) (axis : Int) (marks : List Int) : List Int × List Int × Int :=
  if (withd d axis marks.length).2 = 0 then ((withd d axis marks.length).1, nums d (withd d axis marks.length).1 (tkf axis marks), 0) else ([], [], (withd d axis marks.length).2)
def rfl_ (d : List Int) (axis : Int) : List Int × List Int × Int :=
  if axis < 0 ∨ (d.length : Int) ≤ axis then ([], [], 10) else rtk d axis ((List.range (at0 d axis).toNat).map fun i : Nat => at0 d axis - 1 - (i : Int))
/-- The marks of a slice; none where one is out of range. -/
def mrk (x start step : Int) (n : Nat) : Option (List Int) :=
  if (List.range n).all (fun i : Nat => decide (0 ≤ start + (i : Int) * step) && decide (start + (i : Int) * step < x)) = true then some ((List.range n).map fun i : Nat => start + (i : Int) * step) else none
def rsl (d : List Int) (axis start count step : Int) : List Int × List Int × Int :=
  if axis < 0 ∨ (d.length : Int) ≤ axis then ([], [], 10)
  else if count < 1 ∨ at0 d axis < count ∨ start < 0 ∨ at0 d axis ≤ start ∨ (1 < count ∧ (step = 0 ∨ 64 < step ∨ step < -64)) then ([], [], 11)
  else match mrk (at0 d axis) start step count.toNat with
    | some m => rtk d axis m
    | none => ([], [], 11)
def rex (d to_ : List Int) : List Int × List Int × Int :=
  if chk to_ = 0 then (if fts d to_ = true then (to_, srcs d to_, 0) else ([], [], 8)) else ([], [], chk to_)
def vrs (o : Int) (d s to_ : List Int) : Int × List Int × List Int × Int :=
  if rgt o d s 64 = true then (if chk to_ = 0 then (if cnt to_ = cnt d then (if row (cls o d s 64) = true then (o, to_, stp to_, 0) else (0, [], [], 19)) else (0, [], [], 8)) else (0, [], [], chk to_)) else (0, [], [], 1)
def vsl (o : Int) (d s : List Int) (a start count step : Int) : Int × List Int × List Int × Int :=
  if rgt o d s 64 = true then (if a < 0 ∨ (d.length : Int) ≤ a then (0, [], [], 10)
    else if start < 0 ∨ at0 d a ≤ start ∨ count < 1 ∨ at0 d a < count ∨ (1 < count ∧ (step = 0 ∨ at0 d a ≤ step ∨ step ≤ -(at0 d a) ∨ start + (count - 1) * step < 0 ∨ at0 d a ≤ start + (count - 1) * step)) then (0, [], [], 11)
    else (if 0 < start then o + start * at0 s a else o, d.set a.toNat count, if count = 1 then s.set a.toNat 0 else s.set a.toNat (at0 s a * step), 0)) else (0, [], [], 1)
/-- Steps of a view that is spread. -/
def exs : List Int → List Int → List Int
  | x :: d, t :: s => (if 1 < x then t else 0) :: exs d s
  | _, _ => []
def vex (o : Int) (d s to_ : List Int) : Int × List Int × List Int × Int :=
  if rgt o d s 64 = true then (if chk to_ = 0 then (if fts d to_ = true then (o, to_, List.replicate (to_.length - d.length) 0 ++ exs d s, 0) else (0, [], [], 8)) else (0, [], [], chk to_)) else (0, [], [], 1)
theorem exs_length (d s : List Int) (h : s.length = d.length) : (exs d s).length = d.length := by
  induction d generalizing s with
  | nil => cases s <;> simp_all [exs]
  | cons x d ih =>
    cases s with
    | nil => simp at h
    | cons t s => simp [exs, ih s (by simpa using h)]
theorem exs_at (d s : List Int) (h : s.length = d.length) (i : Nat) (hi : i < d.length) : at0 (exs d s) (i : Int) = if 1 < at0 d (i : Int) then at0 s (i : Int) else 0 := by
  induction d generalizing s i with
  | nil => simp at hi
  | cons x d ih =>
    cases s with
    | nil => simp at h
    | cons t s =>
      cases i with
      | zero => simp [exs, at0]
      | succ i =>
        have := ih s (by simpa using h) i (by simpa using hi)
        simpa [exs, at0] using this
/-- The steps, i of them set. -/
def est (n : Nat) (d s : List Int) (i : Nat) : List Int := List.replicate (n - d.length) 0 ++ ((exs d s).take i ++ List.replicate (d.length - i) 0)
theorem est_length (n : Nat) (d s : List Int) (h : s.length = d.length) (hn : d.length ≤ n) (i : Nat) (hi : i ≤ d.length) : (est n d s i).length = n := by
  simp [est, exs_length d s h]; omega
theorem est_succ (n : Nat) (d s : List Int) (h : s.length = d.length) (i : Nat) (hi : i < d.length) : est n d s (i + 1) = (est n d s i).set (n - d.length + i) (at0 (exs d s) (i : Int)) := by
  have hl := exs_length d s h
  unfold est
  rw [List.set_append_right _ _ (by simp), List.length_replicate, show n - d.length + i - (n - d.length) = i by omega]
  rw [List.set_append_right _ _ (by rw [List.length_take]; omega), List.length_take, Nat.min_eq_left (by omega), Nat.sub_self]
  rw [show d.length - i = (d.length - (i + 1)) + 1 by omega, List.replicate_succ, List.set_cons_zero]
  rw [List.take_succ_eq_append_getElem (by omega), at0_get _ _ (by omega), List.append_assoc, List.singleton_append]
theorem est_keep (n : Nat) (d s : List Int) (h : s.length = d.length) (i : Nat) (hi : i < d.length) (h1 : ¬ 1 < at0 d (i : Int)) : est n d s (i + 1) = est n d s i := by
  have hl := exs_length d s h
  have he := exs_at d s h i hi
  rw [if_neg h1, at0_get _ _ (by omega)] at he
  unfold est
  rw [List.take_succ_eq_append_getElem (by omega), he, List.append_assoc, List.singleton_append, ← List.replicate_succ, show d.length - (i + 1) + 1 = d.length - i by omega]
/-- A map of places under which a view's elements are elements of another one. -/
def Pk (o : Int) (d s : List Int) (o' : Int) (d' s' : List Int) (f : List Int → List Int) : Prop := ∀ p, inb d' p = true → inb d (f p) = true ∧ o' + ofs p s' = o + ofs (f p) s
theorem pk_rgt {o o' : Int} {d s d' s' : List Int} {f : List Int → List Int} {r : Int} (h : rgt o d s r = true) (hc : chk d' = 0) (hl : s'.length = d'.length) (hp : Pk o d s o' d' s' f) : rgt o' d' s' r = true :=
  rgt_sub h hc hl (fun p hi => ⟨f p, hp p hi⟩)
theorem cls_at {o : Int} {d s : List Int} (h : rgt o d s 64 = true) (p : List Int) (hp : inb d p = true) : 0 ≤ num d p ∧ num d p < ((cls o d s 64).length : Int) ∧ at0 (cls o d s 64) (num d p) = o + ofs p s := by
  have hv := (rgt_ok h).1
  have h1 := (chk_ok hv.1).2.1
  obtain ⟨a1, a2⟩ := num_lt d p h1 hp
  have hl := cls_length o d s 64
  rw [if_pos h, (cnt_ok hv.1).1] at hl
  obtain ⟨m, hm⟩ := Int.eq_ofNat_of_zero_le a1
  refine ⟨a1, by omega, ?_⟩
  rw [hm, at0_get _ _ (by omega), cls_get h, ← hm, dig_num d p h1 hp]
theorem pk_cls {o o' : Int} {d s d' s' : List Int} {f : List Int → List Int} (h : rgt o d s 64 = true) (hc : chk d' = 0) (hl : s'.length = d'.length) (hp : Pk o d s o' d' s' f) :
    cls o' d' s' 64 = (nums d d' f).map (fun a => at0 (cls o d s 64) a) := by
  rw [cls_ok (pk_rgt h hc hl hp)]
  unfold nums
  rw [List.map_map]
  apply List.map_congr_left
  intro p hpm
  obtain ⟨q1, q2⟩ := hp p ((mem_alls hc).1 hpm)
  simp only [Function.comp]
  rw [(cls_at h (f p) q1).2.2, q2]
theorem pk_nums {o o' : Int} {d s d' s' : List Int} {f : List Int → List Int} (h : rgt o d s 64 = true) (hc : chk d' = 0) (hp : Pk o d s o' d' s' f) :
    (nums d d' f).length ≤ 64 ∧ ∀ a ∈ nums d d' f, 0 ≤ a ∧ a < ((cls o d s 64).length : Int) := by
  have := alls_length d'
  have := (cnt_ok hc).2.2
  refine ⟨by unfold nums; rw [List.length_map]; omega, fun a ha => ?_⟩
  unfold nums at ha
  rw [List.mem_map] at ha
  obtain ⟨p, hpm, rfl⟩ := ha
  have := cls_at h (f p) (hp p ((mem_alls hc).1 hpm)).1
  exact ⟨this.1, this.2.1⟩
/-- What the law wants of a view of a view (offset, dims, steps, error) and what the reference tells (dims, elements, error). -/
def Agr (o : Int) (d s : List Int) (w : Int × List Int × List Int × Int) (r : List Int × List Int × Int) : Prop :=
  (r.2.2 = 0 → w.2.2.2 = 0 ∧ w.2.1 = r.1 ∧ r.1.length ≤ 6 ∧ cls w.1 w.2.1 w.2.2.1 64 = r.2.1.map (fun a => at0 (cls o d s 64) a) ∧ r.2.1.length ≤ 64 ∧ ∀ a ∈ r.2.1, 0 ≤ a ∧ a < ((cls o d s 64).length : Int)) ∧
  (r.2.2 ≠ 0 → w = (0, [], [], r.2.2))
theorem agr_pk {o o' : Int} {d s d' s' : List Int} {f : List Int → List Int} (h : rgt o d s 64 = true) (hc : chk d' = 0) (hl : s'.length = d'.length) (hp : Pk o d s o' d' s' f) : Agr o d s (o', d', s', 0) (d', nums d d' f, 0) :=
  ⟨fun _ => ⟨rfl, rfl, (chk_ok hc).1, pk_cls h hc hl hp, (pk_nums h hc hp).1, (pk_nums h hc hp).2⟩, fun hh => absurd rfl hh⟩
theorem agr_err (o : Int) (d s : List Int) (e : Int) (he : e ≠ 0) : Agr o d s (0, [], [], e) ([], [], e) := ⟨fun hh => absurd hh he, fun _ => rfl⟩
theorem agr_permute {o : Int} {d s : List Int} (h : rgt o d s 64 = true) (l : List Int) : Agr o d s (pmt o d s l) (rpm d l) := by
  unfold pmt rpm
  rw [if_pos h]
  by_cases h2 : (perm d l).2 = 0
  · rw [if_pos h2, if_pos h2]
    obtain ⟨p1, p2, p3, p4, p5⟩ := perm_ok h2
    have hs := (rgt_ok h).1.2.1
    refine agr_pk h p4 (by rw [prm_length, prm_length]) (fun p hp => ⟨inb_prm p2 d p p3.symm hp, ?_⟩)
    rw [pmt_ofs p2 s p (by omega) (by rw [inb_length hp, prm_length])]
  · rw [if_neg h2, if_neg h2]
    exact agr_err _ _ _ _ h2
theorem prod_set_le (d : List Int) (h : ∀ x ∈ d, 1 ≤ x) (i : Nat) (hi : i < d.length) (c : Int) (h1 : 1 ≤ c) (h2 : c ≤ d[i]) : prod (d.set i c) ≤ prod d ∧ ∀ x ∈ d.set i c, 1 ≤ x := by
  refine ⟨?_, fun x hx => ?_⟩
  · induction d generalizing i with
    | nil => simp at hi
    | cons y d ih =>
      have hp := prod_pos d (fun z hz => h z (by simp [hz]))
      have hy := h y (by simp)
      cases i with
      | zero => simp only [List.set_cons_zero, prod]; exact Int.mul_le_mul_of_nonneg_right (by simpa using h2) (by omega)
      | succ i =>
        have := ih (fun z hz => h z (by simp [hz])) i (by simpa using hi) (by simpa using h2)
        simp only [List.set_cons_succ, prod]
        exact Int.mul_le_mul_of_nonneg_left this (by omega)
  · rcases List.mem_or_eq_of_mem_set hx with hx | rfl
    · exact h x hx
    · exact h1
theorem chk_set {d : List Int} (hc : chk d = 0) (i : Nat) (hi : i < d.length) (c : Int) (h1 : 1 ≤ c) (h2 : c ≤ d[i]) : chk (d.set i c) = 0 := by
  obtain ⟨a1, a2, a3⟩ := chk_ok hc
  obtain ⟨b1, b2⟩ := prod_set_le d a2 i hi c h1 h2
  exact ok_chk (by simpa using a1) b2 (by omega)
theorem rtk_ok {d : List Int} (hc : chk d = 0) (i : Nat) (hi : i < d.length) (marks : List Int) (h1 : 1 ≤ marks.length) (h2 : (marks.length : Int) ≤ d[i]) : rtk d (i : Int) marks = (d.set i (marks.length : Int), nums d (d.set i (marks.length : Int)) (tkf (i : Int) marks), 0) := by
  have hs := chk_set hc i hi (marks.length : Int) (by omega) h2
  have e : withd d (i : Int) (marks.length : Int) = (d.set i (marks.length : Int), 0) := by
    unfold withd
    rw [if_pos hc, if_neg (by omega), Int.toNat_natCast, if_pos hs]
  unfold rtk
  rw [e]; rfl
theorem tkf_inb {d : List Int} (i : Nat) (hi : i < d.length) (marks : List Int) (hm : ∀ m ∈ marks, 0 ≤ m ∧ m < at0 d (i : Int)) (p : List Int) (hp : inb (d.set i (marks.length : Int)) p = true) : inb d (tkf (i : Int) marks p) = true ∧ 0 ≤ at0 p (i : Int) ∧ at0 p (i : Int) < (marks.length : Int) := by
  obtain ⟨hl, hpi⟩ := (inb_iff _ _).1 hp
  rw [List.length_set] at hl hpi
  have ha := hpi i hi
  rw [at0_set_same _ _ hi] at ha
  refine ⟨(inb_iff _ _).2 ⟨by unfold tkf; simp; omega, fun b hb => ?_⟩, ha⟩
  unfold tkf
  rw [Int.toNat_natCast]
  by_cases e : i = b
  · subst e
    obtain ⟨j, hj⟩ := Int.eq_ofNat_of_zero_le ha.1
    have hjl : j < marks.length := by omega
    rw [at0_set_same _ _ (by omega), hj, at0_get _ _ hjl]
    exact hm _ (List.getElem_mem hjl)
  · rw [at0_set_other _ _ _ e]
    have := hpi b hb
    rw [at0_set_other _ _ _ e] at this
    exact this
theorem at0_map_range (n : Nat) (g : Nat → Int) (j : Int) (h0 : 0 ≤ j) (h1 : j < (n : Int)) : at0 ((List.range n).map g) j = g j.toNat := by
  obtain ⟨m, rfl⟩ := Int.eq_ofNat_of_zero_le h0
  rw [at0_get _ _ (by simp; omega)]
  simp
theorem agr_flip {o : Int} {d s : List Int} (h : rgt o d s 64 = true) (a : Int) : Agr o d s (flp o d s a) (rfl_ d a) := by
  unfold flp rfl_
  rw [if_pos h]
  by_cases h0 : a < 0 ∨ (d.length : Int) ≤ a
  · rw [if_pos h0, if_pos h0]; exact agr_err _ _ _ _ (by decide)
  · rw [if_neg h0, if_neg h0]
    obtain ⟨i, rfl⟩ := Int.eq_ofNat_of_zero_le (show 0 ≤ a by omega)
    have hv := (rgt_ok h).1
    have hi : i < d.length := by omega
    have hx := (chk_ok hv.1).2.1 _ (List.getElem_mem hi)
    have ex := at0_get d i hi
    obtain ⟨n, hn⟩ := Int.eq_ofNat_of_zero_le (show 0 ≤ at0 d (i : Int) by omega)
    have hml : ((List.range (at0 d (i : Int)).toNat).map fun j : Nat => at0 d (i : Int) - 1 - (j : Int)).length = n := by simp; omega
    have hset : d.set i (n : Int) = d := by rw [← hn, ex, List.set_getElem_self]
    have hmk : ∀ m ∈ (List.range (at0 d (i : Int)).toNat).map fun j : Nat => at0 d (i : Int) - 1 - (j : Int), 0 ≤ m ∧ m < at0 d (i : Int) := fun m hm => by
      simp only [List.mem_map, List.mem_range] at hm
      obtain ⟨j, hj, rfl⟩ := hm
      omega
    rw [rtk_ok hv.1 i hi _ (by omega) (by rw [hml]; omega), hml, hset]
    have key : ∀ p, inb d p = true → inb d (tkf (i : Int) ((List.range (at0 d (i : Int)).toNat).map fun j : Nat => at0 d (i : Int) - 1 - (j : Int)) p) = true ∧ tkf (i : Int) ((List.range (at0 d (i : Int)).toNat).map fun j : Nat => at0 d (i : Int) - 1 - (j : Int)) p = p.set i (at0 d (i : Int) - 1 - at0 p (i : Int)) := fun p hp => by
      obtain ⟨q1, q2, q3⟩ := tkf_inb i hi _ hmk p (by rw [hml, hset]; exact hp)
      rw [hml] at q3
      refine ⟨q1, ?_⟩
      unfold tkf
      rw [Int.toNat_natCast, at0_map_range _ _ _ q2 (by omega), Int.toNat_of_nonneg q2]
    by_cases h1 : 1 < at0 d (i : Int)
    · rw [if_pos h1, Int.toNat_natCast]
      refine agr_pk h hv.1 (by simpa using hv.2.1) (fun p hp => ⟨(key p hp).1, ?_⟩)
      rw [(key p hp).2]
      exact flp_ofs o d s p i hi hv.2.1 hp
    · rw [if_neg h1]
      refine agr_pk h hv.1 hv.2.1 (fun p hp => ⟨(key p hp).1, ?_⟩)
      rw [(key p hp).2]
      have hpl := inb_length hp
      have hg := inb_get hp i hi (by omega)
      have ep := at0_get p i (by omega)
      rw [show at0 d (i : Int) - 1 - at0 p (i : Int) = p[i] by omega, List.set_getElem_self]
theorem mrk_eq (x start step : Int) (n : Nat) : mrk x start step n = if ∀ i : Nat, i < n → 0 ≤ start + (i : Int) * step ∧ start + (i : Int) * step < x then some ((List.range n).map fun i : Nat => start + (i : Int) * step) else none := by
  unfold mrk
  by_cases h : ∀ i : Nat, i < n → 0 ≤ start + (i : Int) * step ∧ start + (i : Int) * step < x
  · rw [if_pos h, if_pos]
    rw [List.all_eq_true]
    intro i hi
    rw [List.mem_range] at hi
    simpa using h i hi
  · rw [if_neg h, if_neg]
    intro hh
    rw [List.all_eq_true] at hh
    refine h (fun i hi => ?_)
    have := hh i (by rw [List.mem_range]; exact hi)
    simpa using this
/-- All marks are in range just where the last one is. -/
theorem marks_last {x start step : Int} {n : Nat} (hn : 1 ≤ n) (h0 : 0 ≤ start) (h1 : start < x) : (∀ i : Nat, i < n → 0 ≤ start + (i : Int) * step ∧ start + (i : Int) * step < x) ↔ (0 ≤ start + ((n : Int) - 1) * step ∧ start + ((n : Int) - 1) * step < x) := by
  constructor
  · intro h
    have := h (n - 1) (by omega)
    rw [show (((n - 1 : Nat) : Int)) = (n : Int) - 1 by omega] at this
    exact this
  · rintro ⟨l0, l1⟩ i hi
    rcases Int.lt_or_le step 0 with hs | hs
    · have e1 : ((n : Int) - 1) * step ≤ (i : Int) * step := Int.mul_le_mul_of_nonpos_right (by omega) (by omega)
      have e2 : (i : Int) * step ≤ 0 := Int.mul_nonpos_of_nonneg_of_nonpos (by omega) (by omega)
      omega
    · have e1 : (i : Int) * step ≤ ((n : Int) - 1) * step := Int.mul_le_mul_of_nonneg_right (by omega) hs
      have e2 : 0 ≤ (i : Int) * step := Int.mul_nonneg (by omega) hs
      omega
theorem agr_slice {o : Int} {d s : List Int} (h : rgt o d s 64 = true) (a start count step : Int) : Agr o d s (vsl o d s a start count step) (rsl d a start count step) := by
  unfold vsl rsl
  rw [if_pos h]
  by_cases h0 : a < 0 ∨ (d.length : Int) ≤ a
  · rw [if_pos h0, if_pos h0]; exact agr_err _ _ _ _ (by decide)
  · rw [if_neg h0, if_neg h0]
    obtain ⟨i, rfl⟩ := Int.eq_ofNat_of_zero_le (show 0 ≤ a by omega)
    have hv := (rgt_ok h).1
    have hi : i < d.length := by omega
    have hx := (chk_ok hv.1).2.1 _ (List.getElem_mem hi)
    have hx2 := ok_le hv.1 _ (List.getElem_mem hi)
    have ex := at0_get d i hi
    rw [← ex] at hx hx2
    by_cases c : start < 0 ∨ at0 d (i : Int) ≤ start ∨ count < 1 ∨ at0 d (i : Int) < count
    · rw [if_pos (by omega), if_pos (by omega)]; exact agr_err _ _ _ _ (by decide)
    · obtain ⟨n, rfl⟩ := Int.eq_ofNat_of_zero_le (show 0 ≤ count by omega)
      rw [Int.toNat_natCast, Int.toNat_natCast]
      have hml := marks_last (x := at0 d (i : Int)) (start := start) (step := step) (n := n) (by omega) (by omega) (by omega)
      by_cases m : ∀ j : Nat, j < n → 0 ≤ start + (j : Int) * step ∧ start + (j : Int) * step < at0 d (i : Int)
      · have hl := hml.1 m
        have hb : 1 < (n : Int) → -(at0 d (i : Int)) < step ∧ step < at0 d (i : Int) := fun hn => by
          have := m 1 (by omega)
          simp at this
          omega
        by_cases hz : 1 < (n : Int) ∧ step = 0
        · rw [if_pos (.inr (.inr (.inr (.inr ⟨hz.1, .inl hz.2⟩)))), if_pos (.inr (.inr (.inr (.inr ⟨hz.1, .inl hz.2⟩))))]; exact agr_err _ _ _ _ (by decide)
        · have hA : ¬ (start < 0 ∨ at0 d (i : Int) ≤ start ∨ (n : Int) < 1 ∨ at0 d (i : Int) < (n : Int) ∨ (1 < (n : Int) ∧ (step = 0 ∨ at0 d (i : Int) ≤ step ∨ step ≤ -(at0 d (i : Int)) ∨ start + ((n : Int) - 1) * step < 0 ∨ at0 d (i : Int) ≤ start + ((n : Int) - 1) * step))) := by omega
          have hB : ¬ ((n : Int) < 1 ∨ at0 d (i : Int) < (n : Int) ∨ start < 0 ∨ at0 d (i : Int) ≤ start ∨ (1 < (n : Int) ∧ (step = 0 ∨ 64 < step ∨ step < -64))) := by omega
          rw [if_neg hA, if_neg hB, mrk_eq, if_pos m]
          simp only
          have hmk : ∀ q ∈ (List.range n).map fun j : Nat => start + (j : Int) * step, 0 ≤ q ∧ q < at0 d (i : Int) := fun q hq => by
            simp only [List.mem_map, List.mem_range] at hq
            obtain ⟨j, hj, rfl⟩ := hq
            exact m j hj
          have hlen : ((List.range n).map fun j : Nat => start + (j : Int) * step).length = n := by simp
          rw [rtk_ok hv.1 i hi _ (by omega) (by rw [hlen, ← ex]; omega), hlen]
          refine agr_pk (s' := if (n : Int) = 1 then s.set i 0 else s.set i (at0 s (i : Int) * step)) h (chk_set hv.1 i hi (n : Int) (by omega) (by rw [← ex]; omega)) (by split <;> simp <;> exact hv.2.1) (fun p hp => ?_)
          obtain ⟨q1, q2, q3⟩ := tkf_inb i hi _ hmk p (by rw [hlen]; exact hp)
          rw [hlen] at q3
          refine ⟨q1, ?_⟩
          have hpl := inb_length hp
          rw [List.length_set] at hpl
          have hf : tkf (i : Int) ((List.range n).map fun j : Nat => start + (j : Int) * step) p = p.set i (start + at0 p (i : Int) * step) := by
            unfold tkf
            rw [Int.toNat_natCast, at0_map_range _ _ _ q2 (by omega), Int.toNat_of_nonneg q2]
          rw [hf]
          have e2 := ofs_set p s i (by omega) (by rw [hv.2.1]; omega) (start + at0 p (i : Int) * step) s[i]
          rw [List.set_getElem_self] at e2
          have es := at0_get s i (by rw [hv.2.1]; omega)
          have ep := at0_get p i (by omega)
          rw [← es, ← ep] at e2
          have e3 : (start + at0 p (i : Int) * step) * at0 s (i : Int) = start * at0 s (i : Int) + at0 p (i : Int) * (at0 s (i : Int) * step) := by
            rw [Int.add_mul, Int.mul_assoc, Int.mul_comm step]
          have eo : (if 0 < start then o + start * at0 s (i : Int) else o) = o + start * at0 s (i : Int) := by
            split
            · rfl
            · rw [show start = 0 by omega, Int.zero_mul, Int.add_zero]
          rw [eo, e2, e3]
          by_cases hn1 : (n : Int) = 1
          · rw [if_pos hn1]
            have e1 := ofs_set p s i (by omega) (by rw [hv.2.1]; omega) p[i] 0
            rw [List.set_getElem_self, ← ep, ← es] at e1
            have hp0 : at0 p (i : Int) = 0 := by omega
            rw [e1, hp0]
            simp only [Int.zero_mul, Int.add_zero, Int.sub_zero]
            omega
          · rw [if_neg hn1]
            have e1 := ofs_set p s i (by omega) (by rw [hv.2.1]; omega) p[i] (at0 s (i : Int) * step)
            rw [List.set_getElem_self, ← ep, ← es] at e1
            rw [e1]
            omega
      · have hl : ¬ (0 ≤ start + ((n : Int) - 1) * step ∧ start + ((n : Int) - 1) * step < at0 d (i : Int)) := fun hh => m (hml.2 hh)
        have hn1 : 1 < (n : Int) := by
          apply Decidable.byContradiction
          intro hc
          have : (n : Int) - 1 = 0 := by omega
          rw [this, Int.zero_mul, Int.add_zero] at hl
          omega
        rw [if_pos (by omega)]
        by_cases hz : step = 0 ∨ 64 < step ∨ step < -64
        · rw [if_pos (by omega)]; exact agr_err _ _ _ _ (by decide)
        · rw [if_neg (by omega), mrk_eq, if_neg m]; exact agr_err _ _ _ _ (by decide)
theorem ofs_pad (k : Nat) (p t : List Int) : ofs p (List.replicate k 0 ++ t) = ofs (p.drop k) t := by
  induction k generalizing p with
  | zero => simp
  | succ k ih =>
    cases p with
    | nil => simp [ofs]
    | cons a p => rw [List.replicate_succ, List.cons_append, ofs, Int.mul_zero, Int.zero_add, ih, List.drop_succ_cons]
theorem ofs_sat (d s q : List Int) (h : ∀ x ∈ d, 1 ≤ x) (hl : s.length = d.length) (hq : q.length = d.length) : ofs q (exs d s) = ofs (sat d q) s := by
  induction d generalizing s q with
  | nil => cases q <;> simp_all [sat, ofs]
  | cons x d ih =>
    cases s with
    | nil => simp at hl
    | cons t s =>
      cases q with
      | nil => simp at hq
      | cons v q =>
        have hx := h x (by simp)
        simp only [exs, sat, ofs]
        rw [ih s q (fun y hy => h y (by simp [hy])) (by simpa using hl) (by simpa using hq)]
        by_cases h1 : x = 1
        · rw [if_neg (by omega), if_pos h1]; simp
        · rw [if_pos (by omega), if_neg h1]
theorem agr_expand {o : Int} {d s : List Int} (h : rgt o d s 64 = true) (to_ : List Int) : Agr o d s (vex o d s to_) (rex d to_) := by
  unfold vex rex
  rw [if_pos h]
  by_cases h1 : chk to_ = 0
  · rw [if_pos h1, if_pos h1]
    by_cases h2 : fts d to_ = true
    · rw [if_pos h2, if_pos h2]
      obtain ⟨f1, f2, f3, f4⟩ := (fts_iff d to_).1 h2
      have hs := (rgt_ok h).1.2.1
      have e : srcs d to_ = nums d to_ fun p => sat d (p.drop (to_.length - d.length)) := by unfold srcs nums; rw [if_pos h2]
      rw [e]
      have hd := (chk_ok f1).2.1
      refine agr_pk h h1 (by simp [exs_length d s hs]; omega) (fun p hp => ?_)
      have hpl := inb_length hp
      have hsub := sub_drop f4 (to_.length - d.length)
      rw [pad_drop] at hsub
      refine ⟨inb_sat d _ _ hsub hd (inb_dropn _ _ hp _), ?_⟩
      rw [ofs_pad, ofs_sat d s _ hd hs (by rw [List.length_drop]; omega)]
    · rw [if_neg h2, if_neg h2]; exact agr_err _ _ _ _ (by decide)
  · rw [if_neg h1, if_neg h1]; exact agr_err _ _ _ _ h1
theorem ofs_stp (d p : List Int) (hp : p.length = d.length) : ofs p (stp d) = num d p := by
  induction d generalizing p with
  | nil => cases p <;> simp_all [ofs, num]
  | cons x d ih =>
    cases p with
    | nil => simp at hp
    | cons a p => simp only [stp, ofs, num]; rw [ih p (by simpa using hp)]
theorem agr_reshape {o : Int} {d s : List Int} (h : rgt o d s 64 = true) (to_ : List Int) : Agr o d s (vrs o d s to_) (if (rsp d to_).2.2 = 0 ∧ ¬ row (cls o d s 64) = true then ((rsp d to_).1, (rsp d to_).2.1, 19) else rsp d to_) := by
  unfold vrs rsp
  rw [if_pos h]
  by_cases h1 : chk to_ = 0
  · rw [if_pos h1, if_pos h1]
    by_cases h2 : cnt to_ = cnt d
    · rw [if_pos h2, if_pos h2]
      by_cases h3 : row (cls o d s 64) = true
      · rw [if_pos h3, if_neg (fun hh => hh.2 h3)]
        have hv := (rgt_ok h).1
        have hd := (chk_ok hv.1).2.1
        have ht := (chk_ok h1).2.1
        have c1 := cnt_ok h1
        have c2 := cnt_ok hv.1
        rw [← rws_row h, rws_iff d s hd hv.2.1] at h3
        have e : ((List.range (cnt d).toNat).map fun i : Nat => (i : Int)) = nums d to_ fun p => dig d (num to_ p) := by
          unfold nums
          rw [alls_ok h1]
          unfold pre
          rw [List.map_map]
          have : (prod to_).toNat = (cnt d).toNat := by omega
          rw [this]
          apply List.map_congr_left
          intro i hi
          rw [List.mem_range] at hi
          simp only [Function.comp]
          rw [num_dig_lt to_ ht _ (by omega) (by omega), num_dig_lt d hd _ (by omega) (by omega)]
        rw [e]
        refine agr_pk h h1 (stp_length to_) (fun p hp => ⟨inb_dig d hd _, ?_⟩)
        obtain ⟨n1, n2⟩ := num_lt to_ p ht hp
        rw [ofs_stp to_ p (inb_length hp), h3 _ n1 (by omega)]
      · rw [if_neg h3, if_pos ⟨rfl, h3⟩]
        exact ⟨fun hh => absurd hh (by simp), fun _ => rfl⟩
    · rw [if_neg h2, if_neg h2, if_neg (fun hh => absurd hh.1 (by simp))]; exact agr_err _ _ _ _ (by decide)
  · rw [if_neg h1, if_neg h1, if_neg (fun hh => h1 hh.1)]; exact agr_err _ _ _ _ h1
/-- What is seen, by the primitive. -/
def sen (o : Int) (d s : List Int) (op n a b c : Int) (l : List Int) : Int × List Int × List Int × Int :=
  if op = 33 then vrs o d s l else if op = 34 then pmt o d s l else if op = 35 then vsl o d s n a b c else if op = 36 then vex o d s l else flp o d s n
def ses (d : List Int) (op n a b c : Int) (l : List Int) : List Int × List Int × Int :=
  if op = 33 then rsp d l else if op = 34 then rpm d l else if op = 35 then rsl d n a b c else if op = 36 then rex d l else rfl_ d n
theorem agr_sen {o : Int} {d s : List Int} (h : rgt o d s 64 = true) (op n a b c : Int) (l : List Int) (hr : op = 33 → row (cls o d s 64) = true) : Agr o d s (sen o d s op n a b c l) (ses d op n a b c l) := by
  unfold sen ses
  by_cases h1 : op = 33
  · rw [if_pos h1, if_pos h1]
    have := agr_reshape h l
    rwa [if_neg (fun hh => hh.2 (hr h1))] at this
  · rw [if_neg h1, if_neg h1]
    by_cases h2 : op = 34
    · rw [if_pos h2, if_pos h2]; exact agr_permute h l
    · rw [if_neg h2, if_neg h2]
      by_cases h3 : op = 35
      · rw [if_pos h3, if_pos h3]; exact agr_slice h n a b c
      · rw [if_neg h3, if_neg h3]
        by_cases h4 : op = 36
        · rw [if_pos h4, if_pos h4]; exact agr_expand h l
        · rw [if_neg h4, if_neg h4]; exact agr_flip h n
theorem rtk_right (d : List Int) (n : Int) (l : List Int) : ((rtk d n l).2.2 = 0 → chk (rtk d n l).1 = 0) ∧ ((rtk d n l).2.2 ≠ 0 → (rtk d n l).1 = []) := by
  unfold rtk
  by_cases h : (withd d n (l.length : Int)).2 = 0
  · obtain ⟨w1, w2, w3, w4, w5⟩ := withd_o29 h
    rw [if_pos h, w5]
    exact ⟨fun _ => w4, fun hh => absurd rfl hh⟩
  · rw [if_neg h]
    exact ⟨fun hh => absurd hh h, fun _ => rfl⟩
theorem ses_right (d : List Int) (op n a b c : Int) (l : List Int) : ((ses d op n a b c l).2.2 = 0 → chk (ses d op n a b c l).1 = 0) ∧ ((ses d op n a b c l).2.2 ≠ 0 → (ses d op n a b c l).1 = []) := by
  unfold ses
  split
  · unfold rsp
    by_cases h : chk l = 0
    · rw [if_pos h]; split
      · exact ⟨fun _ => h, fun hh => absurd rfl hh⟩
      · exact ⟨fun hh => absurd hh (by decide), fun _ => rfl⟩
    · rw [if_neg h]; exact ⟨fun hh => absurd hh h, fun _ => rfl⟩
  · split
    · unfold rpm
      by_cases h : (perm d l).2 = 0
      · rw [if_pos h]; exact ⟨fun _ => (perm_ok h).2.2.2.1, fun hh => absurd rfl hh⟩
      · rw [if_neg h]; exact ⟨fun hh => absurd hh h, fun _ => rfl⟩
    · split
      · unfold rsl
        split
        · exact ⟨fun hh => absurd hh (by decide), fun _ => rfl⟩
        · split
          · exact ⟨fun hh => absurd hh (by decide), fun _ => rfl⟩
          · split
            · exact rtk_right _ _ _
            · exact ⟨fun hh => absurd hh (by decide), fun _ => rfl⟩
      · split
        · unfold rex
          by_cases h : chk l = 0
          · rw [if_pos h]; split
            · exact ⟨fun _ => h, fun hh => absurd rfl hh⟩
            · exact ⟨fun hh => absurd hh (by decide), fun _ => rfl⟩
          · rw [if_neg h]; exact ⟨fun hh => absurd hh h, fun _ => rfl⟩
        · unfold rfl_
          split
          · exact ⟨fun hh => absurd hh (by decide), fun _ => rfl⟩
          · exact rtk_right _ _ _
theorem sen_whole {d : List Int} (h : chk d = 0) (op n a b c : Int) (l : List Int) : (sen 0 d (stp d) op n a b c l).2.1 = (ses d op n a b c l).1 ∧ (sen 0 d (stp d) op n a b c l).2.2.2 = (ses d op n a b c l).2.2 := by
  have hg := agr_sen (whole_rgt h) op n a b c l (fun _ => whole_row h)
  by_cases e : (ses d op n a b c l).2.2 = 0
  · obtain ⟨a1, a2, _⟩ := hg.1 e
    exact ⟨a2, by rw [a1, e]⟩
  · rw [hg.2 e]
    exact ⟨((ses_right d op n a b c l).2 e).symm, rfl⟩
/-- The first thing that is wrong with dims. -/
def fchk : List (List Int) → Int
  | [] => 0
  | d :: l => if chk d = 0 then fchk l else chk d
theorem fchk_all {l : List (List Int)} (h : fchk l = 0) : ∀ d ∈ l, chk d = 0 := by
  induction l with
  | nil => simp
  | cons d l ih =>
    unfold fchk at h
    split at h
    · rename_i h1
      intro x hx
      rcases List.mem_cons.1 hx with rfl | hx
      · exact h1
      · exact ih h x hx
    · exact absurd h (by assumption)
/-- Are they alike but at the axis, from the i-th one on? -/
def jok (n : Int) (a b : List Int) (i : Nat) : Bool := (List.range (a.length - i)).all fun j => decide (((i + j : Nat) : Int) = n) || decide (at0 a ((i + j : Nat) : Int) = at0 b ((i + j : Nat) : Int))
theorem jok_end (n : Int) (a b : List Int) : jok n a b a.length = true := by unfold jok; simp
theorem jok_step (n : Int) (a b : List Int) (i : Nat) (h : i < a.length) : jok n a b i = ((decide ((i : Int) = n) || decide (at0 a (i : Int) = at0 b (i : Int))) && jok n a b (i + 1)) := by
  unfold jok
  rw [show a.length - i = (a.length - (i + 1)) + 1 by omega, List.range_succ_eq_map, List.all_cons, List.all_map, Nat.add_zero]
  congr 2
  funext j
  simp only [Function.comp, Nat.succ_eq_add_one]
  rw [show i + (j + 1) = i + 1 + j by omega]
def joind (a b : List Int) (n : Int) : List Int × Int :=
  if n < 0 ∨ (a.length : Int) ≤ n then ([], 10) else if a.length = b.length then (if jok n a b 0 = true then withd a n (at0 a n + at0 b n) else ([], 8)) else ([], 8)
def mvd (op n a b c : Int) (l : List Int) (dims : List (List Int)) : List Int × Int :=
  if 33 ≤ op ∧ op ≤ 40 then (if (dims.length : Int) = (if op = 40 then 2 else 1) then (if fchk dims = 0 then
    (if op = 38 then takd (dims.getD 0 []) n l else if op = 39 then putd (dims.getD 0 []) n a l else if op = 40 then joind (dims.getD 0 []) (dims.getD 1 []) n else ((ses (dims.getD 0 []) op n a b c l).1, (ses (dims.getD 0 []) op n a b c l).2.2))
    else ([], fchk dims)) else ([], 1)) else ([], 14)
/-- Dims that may be, or none, and what is wrong. -/
def Rgt (r : List Int × Int) : Prop := (r.2 = 0 → chk r.1 = 0) ∧ (r.2 ≠ 0 → r.1 = [])
theorem rgt_withd (d : List Int) (n a : Int) : Rgt (withd d n a) := by
  by_cases h : (withd d n a).2 = 0
  · obtain ⟨w1, w2, w3, w4, w5⟩ := withd_o29 h
    rw [w5]; exact ⟨fun _ => w4, fun hh => absurd rfl hh⟩
  · refine ⟨fun hh => absurd hh h, fun _ => ?_⟩
    unfold withd at h ⊢
    split
    · rename_i h1
      rw [if_pos h1] at h
      split
      · rfl
      · rename_i h2
        rw [if_neg h2] at h
        split
        · rename_i h3; rw [if_pos h3] at h; exact absurd rfl h
        · rfl
    · rfl
def axes (op n : Int) (l : List Int) : List Int := if op = 27 ∨ op = 28 then l else [n]
def putv (d : List Int) (n a : Int) (l : List Int) : List Int × List Int × List Int × Int :=
  if (putd d n a l).2 = 0 then ((putd d n a l).1, [], (alls d).map (fun p => plr (putd d n a l).1 (mvp n l p)), 0) else ([], [], [], (putd d n a l).2)
def jnw (a : List Int) (n : Int) (p : List Int) : Int := if at0 p n < at0 a n then 0 else 1
def jnf (a b : List Int) (n : Int) (p : List Int) : Int := if at0 p n < at0 a n then plr a p else plr b (p.set n.toNat (at0 p n - at0 a n))
def joinv (a b : List Int) (n : Int) : List Int × List Int × List Int × Int :=
  if (joind a b n).2 = 0 then ((joind a b n).1, (alls (joind a b n).1).map (jnw a n), (alls (joind a b n).1).map (jnf a b n), 0) else ([], [], [], (joind a b n).2)
def sgl (d : List Int) (op n a b c : Int) (l : List Int) : List Int × List Int × Int :=
  if op = 38 then (if n < 0 ∨ (d.length : Int) ≤ n then ([], [], 10) else if inr l (at0 d n) = true then rtk d n l else ([], [], 11)) else ses d op n a b c l
def ofv (op n a b c : Int) (l : List Int) (dims : List (List Int)) : List Int × List Int × List Int × Int :=
  if 33 ≤ op ∧ op ≤ 40 then (if (dims.length : Int) = (if op = 40 then 2 else 1) then (if fchk dims = 0 then
    (if op = 39 then putv (dims.getD 0 []) n a l else if op = 40 then joinv (dims.getD 0 []) (dims.getD 1 []) n else
      if (sgl (dims.getD 0 []) op n a b c l).2.2 = 0 then ((sgl (dims.getD 0 []) op n a b c l).1, List.replicate (sgl (dims.getD 0 []) op n a b c l).2.1.length 0, (sgl (dims.getD 0 []) op n a b c l).2.1, 0) else ([], [], [], (sgl (dims.getD 0 []) op n a b c l).2.2))
    else ([], [], [], fchk dims)) else ([], [], [], 1)) else ([], [], [], 14)
theorem joind_ok {a b : List Int} {n : Int} (h : (joind a b n).2 = 0) : 0 ≤ n ∧ n < (a.length : Int) ∧ a.length = b.length ∧ jok n a b 0 = true ∧ chk a = 0 ∧ chk (a.set n.toNat (at0 a n + at0 b n)) = 0 ∧ joind a b n = (a.set n.toNat (at0 a n + at0 b n), 0) := by
  unfold joind at h ⊢
  by_cases h1 : n < 0 ∨ (a.length : Int) ≤ n
  · rw [if_pos h1] at h; exact absurd h (by decide)
  · rw [if_neg h1] at h ⊢
    by_cases h2 : a.length = b.length
    · rw [if_pos h2] at h ⊢
      by_cases h3 : jok n a b 0 = true
      · rw [if_pos h3] at h ⊢
        obtain ⟨w1, w2, w3, w4, w5⟩ := withd_o29 h
        exact ⟨w2, w3, h2, h3, w1, w4, w5⟩
      · rw [if_neg h3] at h; exact absurd h (by decide)
    · rw [if_neg h2] at h; exact absurd h (by decide)
theorem sgl_tak (d : List Int) (n a b c : Int) (l : List Int) : (sgl d 38 n a b c l).1 = (takd d n l).1 ∧ (sgl d 38 n a b c l).2.2 = (takd d n l).2 := by
  unfold sgl takd
  rw [if_pos rfl]
  by_cases h1 : n < 0 ∨ (d.length : Int) ≤ n
  · rw [if_pos h1, if_pos h1]; exact ⟨rfl, rfl⟩
  · rw [if_neg h1, if_neg h1]
    by_cases h2 : inr l (at0 d n) = true
    · rw [if_pos h2, if_pos h2]
      unfold rtk
      by_cases h3 : (withd d n (l.length : Int)).2 = 0
      · rw [if_pos h3]; exact ⟨rfl, h3.symm⟩
      · rw [if_neg h3]; exact ⟨((rgt_withd d n (l.length : Int)).2 h3).symm, rfl⟩
    · rw [if_neg h2, if_neg h2]; exact ⟨rfl, rfl⟩
theorem nums_at {d d' : List Int} {f : List Int → List Int} (i : Int) (h0 : 0 ≤ i) (h1 : i < cnt d') : at0 (nums d d' f) i = num d (f (dig d' i)) := by
  obtain ⟨j, rfl⟩ := Int.eq_ofNat_of_zero_le h0
  have hl := alls_length d'
  rw [at0_get _ _ (by unfold nums; rw [List.length_map]; omega)]
  unfold nums
  rw [List.getElem_map, alls_get]
theorem nums_length (d d' : List Int) (f : List Int → List Int) : ((nums d d' f).length : Int) = cnt d' := by unfold nums; rw [List.length_map, alls_length]
theorem plc_in {d q : List Int} (hc : chk d = 0) (h : inb d q = true) : (plc d q).1 = num d q := by
  unfold plc ind; rw [decide_eq_true hc, h]; rfl
theorem rsp_ok {d l : List Int} (h : (rsp d l).2.2 = 0) : chk l = 0 ∧ cnt l = cnt d ∧ rsp d l = (l, (List.range (cnt d).toNat).map fun i : Nat => (i : Int), 0) := by
  unfold rsp at h ⊢
  by_cases h1 : chk l = 0
  · rw [if_pos h1] at h ⊢
    by_cases h2 : cnt l = cnt d
    · rw [if_pos h2]; exact ⟨h1, h2, rfl⟩
    · rw [if_neg h2] at h; exact absurd h (by decide)
  · rw [if_neg h1] at h; exact absurd h h1
theorem rex_ok {d l : List Int} (h : (rex d l).2.2 = 0) : chk l = 0 ∧ fts d l = true ∧ rex d l = (l, srcs d l, 0) := by
  unfold rex at h ⊢
  by_cases h1 : chk l = 0
  · rw [if_pos h1] at h ⊢
    by_cases h2 : fts d l = true
    · rw [if_pos h2]; exact ⟨h1, h2, rfl⟩
    · rw [if_neg h2] at h; exact absurd h (by decide)
  · rw [if_neg h1] at h; exact absurd h h1
theorem rpm_ok {d l : List Int} (h : (rpm d l).2.2 = 0) : (perm d l).2 = 0 ∧ rpm d l = (prm d l, nums d (prm d l) (fun q => prm q (bk l)), 0) := by
  unfold rpm at h ⊢
  by_cases h1 : (perm d l).2 = 0
  · rw [if_pos h1]; exact ⟨h1, rfl⟩
  · rw [if_neg h1] at h; exact absurd h h1
theorem rtk_ok2 {d : List Int} {n : Int} {m : List Int} (h : (rtk d n m).2.2 = 0) : chk d = 0 ∧ 0 ≤ n ∧ n < (d.length : Int) ∧ chk (d.set n.toNat (m.length : Int)) = 0 ∧ rtk d n m = (d.set n.toNat (m.length : Int), nums d (d.set n.toNat (m.length : Int)) (tkf n m), 0) := by
  unfold rtk at h ⊢
  by_cases h1 : (withd d n (m.length : Int)).2 = 0
  · obtain ⟨w1, w2, w3, w4, w5⟩ := withd_o29 h1
    rw [if_pos h1, w5]; exact ⟨w1, w2, w3, w4, rfl⟩
  · rw [if_neg h1] at h; exact absurd h h1
theorem rtk_at {d : List Int} {n : Int} {m : List Int} (h : (rtk d n m).2.2 = 0) (hm : ∀ x ∈ m, 0 ≤ x ∧ x < at0 d n) (i : Int) (h0 : 0 ≤ i) (h1 : i < cnt (rtk d n m).1) :
    at0 (rtk d n m).2.1 i = num d (tkf n m (dig (rtk d n m).1 i)) ∧ inb d (tkf n m (dig (rtk d n m).1 i)) = true ∧ 0 ≤ at0 (dig (rtk d n m).1 i) n ∧ at0 (dig (rtk d n m).1 i) n < (m.length : Int) := by
  obtain ⟨w1, w2, w3, w4, w5⟩ := rtk_ok2 h
  rw [w5] at h1 ⊢
  obtain ⟨j, rfl⟩ := Int.eq_ofNat_of_zero_le w2
  rw [Int.toNat_natCast] at w4 h1 ⊢
  have hi := inb_dig (d.set j (m.length : Int)) (chk_ok w4).2.1 i
  obtain ⟨q1, q2, q3⟩ := tkf_inb j (by omega) m hm _ hi
  exact ⟨nums_at i h0 h1, q1, q2, q3⟩
theorem rsl_ok {d : List Int} {n a b c : Int} (h : (rsl d n a b c).2.2 = 0) : 0 ≤ n ∧ n < (d.length : Int) ∧ 1 ≤ b ∧ 0 ≤ a ∧ a < at0 d n ∧ (∀ i : Nat, i < b.toNat → 0 ≤ a + (i : Int) * c ∧ a + (i : Int) * c < at0 d n) ∧ rsl d n a b c = rtk d n ((List.range b.toNat).map fun i : Nat => a + (i : Int) * c) := by
  unfold rsl at h ⊢
  by_cases g1 : n < 0 ∨ (d.length : Int) ≤ n
  · rw [if_pos g1] at h; exact absurd h (by decide)
  · rw [if_neg g1] at h ⊢
    by_cases g2 : b < 1 ∨ at0 d n < b ∨ a < 0 ∨ at0 d n ≤ a ∨ (1 < b ∧ (c = 0 ∨ 64 < c ∨ c < -64))
    · rw [if_pos g2] at h; exact absurd h (by decide)
    · rw [if_neg g2] at h ⊢
      rw [mrk_eq] at h ⊢
      by_cases g3 : ∀ i : Nat, i < b.toNat → 0 ≤ a + (i : Int) * c ∧ a + (i : Int) * c < at0 d n
      · rw [if_pos g3]
        exact ⟨by omega, by omega, by omega, by omega, by omega, g3, rfl⟩
      · rw [if_neg g3] at h; exact absurd h (by simp)
theorem rfl_ok {d : List Int} {n : Int} (h : (rfl_ d n).2.2 = 0) : 0 ≤ n ∧ n < (d.length : Int) ∧ rfl_ d n = rtk d n ((List.range (at0 d n).toNat).map fun i : Nat => at0 d n - 1 - (i : Int)) := by
  unfold rfl_ at h ⊢
  by_cases g1 : n < 0 ∨ (d.length : Int) ≤ n
  · rw [if_pos g1] at h; exact absurd h (by decide)
  · rw [if_neg g1]; exact ⟨by omega, by omega, rfl⟩
theorem rsl_at {d : List Int} {n a b c : Int} (h : (rsl d n a b c).2.2 = 0) (i : Int) (h0 : 0 ≤ i) (h1 : i < cnt (rsl d n a b c).1) :
    at0 (rsl d n a b c).2.1 i = num d ((dig (rsl d n a b c).1 i).set n.toNat (a + at0 (dig (rsl d n a b c).1 i) n * c)) ∧ inb d ((dig (rsl d n a b c).1 i).set n.toNat (a + at0 (dig (rsl d n a b c).1 i) n * c)) = true ∧ (b = 1 → at0 (dig (rsl d n a b c).1 i) n = 0) ∧ 0 ≤ a + at0 (dig (rsl d n a b c).1 i) n * c ∧ a + at0 (dig (rsl d n a b c).1 i) n * c < at0 d n := by
  obtain ⟨r1, r2, r3, r4, r5, r6, r7⟩ := rsl_ok h
  rw [r7] at h h1 ⊢
  obtain ⟨q1, q2, q3, q4⟩ := rtk_at h (fun x hx => by
    simp only [List.mem_map, List.mem_range] at hx
    obtain ⟨j, hj, rfl⟩ := hx
    exact r6 j hj) i h0 h1
  have hl : ((List.range b.toNat).map fun i : Nat => a + (i : Int) * c).length = b.toNat := by simp
  rw [hl] at q4
  have e : tkf n ((List.range b.toNat).map fun i : Nat => a + (i : Int) * c) (dig (rtk d n ((List.range b.toNat).map fun i : Nat => a + (i : Int) * c)).1 i) = (dig (rtk d n ((List.range b.toNat).map fun i : Nat => a + (i : Int) * c)).1 i).set n.toNat (a + at0 (dig (rtk d n ((List.range b.toNat).map fun i : Nat => a + (i : Int) * c)).1 i) n * c) := by
    unfold tkf
    rw [at0_map_range _ _ _ q3 q4, Int.toNat_of_nonneg q3]
  rw [e] at q1 q2
  have := r6 (at0 (dig (rtk d n ((List.range b.toNat).map fun i : Nat => a + (i : Int) * c)).1 i) n).toNat (by omega)
  rw [Int.toNat_of_nonneg q3] at this
  exact ⟨q1, q2, fun hb => by omega, this.1, this.2⟩
theorem rfl_at {d : List Int} {n : Int} (h : (rfl_ d n).2.2 = 0) (i : Int) (h0 : 0 ≤ i) (h1 : i < cnt (rfl_ d n).1) :
    at0 (rfl_ d n).2.1 i = num d ((dig (rfl_ d n).1 i).set n.toNat (at0 d n - 1 - at0 (dig (rfl_ d n).1 i) n)) ∧ inb d ((dig (rfl_ d n).1 i).set n.toNat (at0 d n - 1 - at0 (dig (rfl_ d n).1 i) n)) = true ∧ 0 ≤ at0 (dig (rfl_ d n).1 i) n ∧ at0 (dig (rfl_ d n).1 i) n < at0 d n := by
  obtain ⟨r1, r2, r7⟩ := rfl_ok h
  rw [r7] at h h1 ⊢
  obtain ⟨q1, q2, q3, q4⟩ := rtk_at h (fun x hx => by
    simp only [List.mem_map, List.mem_range] at hx
    obtain ⟨j, hj, rfl⟩ := hx
    omega) i h0 h1
  have hl : ((List.range (at0 d n).toNat).map fun i : Nat => at0 d n - 1 - (i : Int)).length = (at0 d n).toNat := by simp
  rw [hl] at q4
  have e : tkf n ((List.range (at0 d n).toNat).map fun i : Nat => at0 d n - 1 - (i : Int)) (dig (rtk d n ((List.range (at0 d n).toNat).map fun i : Nat => at0 d n - 1 - (i : Int))).1 i) = (dig (rtk d n ((List.range (at0 d n).toNat).map fun i : Nat => at0 d n - 1 - (i : Int))).1 i).set n.toNat (at0 d n - 1 - at0 (dig (rtk d n ((List.range (at0 d n).toNat).map fun i : Nat => at0 d n - 1 - (i : Int))).1 i) n) := by
    unfold tkf
    rw [at0_map_range _ _ _ q3 q4, Int.toNat_of_nonneg q3]
  rw [e] at q1 q2
  exact ⟨q1, q2, q3, by omega⟩
/-- From which operand, and from which of its elements, the i-th one comes. -/
def mff (op n a b c : Int) (l : List Int) (dims : List (List Int)) (i : Int) : Int × Int × Bool :=
  if (mvd op n a b c l dims).2 = 0 ∧ op ≠ 39 ∧ 0 ≤ i ∧ i < cnt (mvd op n a b c l dims).1 then (at0 (ofv op n a b c l dims).2.1 i, at0 (ofv op n a b c l dims).2.2.1 i, true) else (0, 0, false)
theorem at0_rep (m : Nat) (i : Int) : at0 (List.replicate m 0) i = 0 := by
  unfold at0
  rw [List.getD_eq_getElem?_getD, List.getElem?_replicate]
  split <;> rfl
theorem mvd_ok {op n a b c : Int} {l : List Int} {dims : List (List Int)} (h : (mvd op n a b c l dims).2 = 0) : 33 ≤ op ∧ op ≤ 40 ∧ (dims.length : Int) = (if op = 40 then 2 else 1) ∧ fchk dims = 0 ∧
    mvd op n a b c l dims = (if op = 38 then takd (dims.getD 0 []) n l else if op = 39 then putd (dims.getD 0 []) n a l else if op = 40 then joind (dims.getD 0 []) (dims.getD 1 []) n else ((ses (dims.getD 0 []) op n a b c l).1, (ses (dims.getD 0 []) op n a b c l).2.2)) ∧
    ofv op n a b c l dims = (if op = 39 then putv (dims.getD 0 []) n a l else if op = 40 then joinv (dims.getD 0 []) (dims.getD 1 []) n else
      if (sgl (dims.getD 0 []) op n a b c l).2.2 = 0 then ((sgl (dims.getD 0 []) op n a b c l).1, List.replicate (sgl (dims.getD 0 []) op n a b c l).2.1.length 0, (sgl (dims.getD 0 []) op n a b c l).2.1, 0) else ([], [], [], (sgl (dims.getD 0 []) op n a b c l).2.2)) := by
  unfold mvd at h
  by_cases h1 : 33 ≤ op ∧ op ≤ 40
  · rw [if_pos h1] at h
    by_cases h2 : (dims.length : Int) = (if op = 40 then 2 else 1)
    · rw [if_pos h2] at h
      by_cases h3 : fchk dims = 0
      · refine ⟨h1.1, h1.2, h2, h3, ?_, ?_⟩
        · unfold mvd; rw [if_pos h1, if_pos h2, if_pos h3]
        · unfold ofv; rw [if_pos h1, if_pos h2, if_pos h3]
      · rw [if_neg h3] at h; exact absurd h h3
    · rw [if_neg h2] at h; exact absurd h (by decide)
  · rw [if_neg h1] at h; exact absurd h (by decide)
theorem mvd_v {op n a b c : Int} {l : List Int} {dims : List (List Int)} (h : (mvd op n a b c l dims).2 = 0) (h37 : op ≤ 37) : (ses (dims.getD 0 []) op n a b c l).2.2 = 0 ∧ (mvd op n a b c l dims).1 = (ses (dims.getD 0 []) op n a b c l).1 ∧ (ofv op n a b c l dims).2.2.1 = (ses (dims.getD 0 []) op n a b c l).2.1 ∧ (ofv op n a b c l dims).2.1 = List.replicate (ses (dims.getD 0 []) op n a b c l).2.1.length 0 := by
  obtain ⟨w1, w2, w3, w4, w5, w6⟩ := mvd_ok h
  rw [if_neg (by omega), if_neg (by omega), if_neg (by omega)] at w5
  rw [if_neg (by omega), if_neg (by omega)] at w6
  rw [w5] at h
  have hs : sgl (dims.getD 0 []) op n a b c l = ses (dims.getD 0 []) op n a b c l := by unfold sgl; rw [if_neg (by omega)]
  rw [hs, if_pos h] at w6
  rw [w5, w6]
  exact ⟨h, rfl, rfl, rfl⟩
theorem mvd_t {n a b c : Int} {l : List Int} {dims : List (List Int)} (h : (mvd 38 n a b c l dims).2 = 0) : (rtk (dims.getD 0 []) n l).2.2 = 0 ∧ inr l (at0 (dims.getD 0 []) n) = true ∧ (mvd 38 n a b c l dims).1 = (rtk (dims.getD 0 []) n l).1 ∧ (ofv 38 n a b c l dims).2.2.1 = (rtk (dims.getD 0 []) n l).2.1 ∧ (ofv 38 n a b c l dims).2.1 = List.replicate (rtk (dims.getD 0 []) n l).2.1.length 0 := by
  obtain ⟨w1, w2, w3, w4, w5, w6⟩ := mvd_ok h
  rw [if_pos rfl] at w5
  rw [if_neg (by decide), if_neg (by decide)] at w6
  rw [w5] at h
  obtain ⟨s1, s2⟩ := sgl_tak (dims.getD 0 []) n a b c l
  have hi : inr l (at0 (dims.getD 0 []) n) = true ∧ sgl (dims.getD 0 []) 38 n a b c l = rtk (dims.getD 0 []) n l := by
    unfold takd at h
    unfold sgl
    by_cases g : n < 0 ∨ ((dims.getD 0 []).length : Int) ≤ n
    · rw [if_pos g] at h; exact absurd h (by decide)
    · rw [if_neg g] at h
      rw [if_pos rfl, if_neg g]
      by_cases g2 : inr l (at0 (dims.getD 0 []) n) = true
      · rw [if_pos g2]; exact ⟨g2, rfl⟩
      · rw [if_neg g2] at h; exact absurd h (by decide)
  rw [if_pos (by rw [s2]; exact h)] at w6
  rw [w6, w5]
  refine ⟨by rw [← hi.2, s2]; exact h, hi.1, by rw [← hi.2, s1], by rw [hi.2], by rw [hi.2]⟩
theorem inr_mem {l : List Int} {m : Int} (h : inr l m = true) : ∀ x ∈ l, 0 ≤ x ∧ x < m := fun x hx => by
  obtain ⟨i, hi, rfl⟩ := List.mem_iff_getElem.1 hx
  exact inr_a29 h i hi
theorem jok_at {n : Int} {a b : List Int} (h : jok n a b 0 = true) (j : Nat) (hj : j < a.length) (hn : (j : Int) ≠ n) : at0 a (j : Int) = at0 b (j : Int) := by
  unfold jok at h
  rw [List.all_eq_true] at h
  have := h j (by rw [List.mem_range]; omega)
  rw [Nat.zero_add] at this
  simpa [hn] using this
theorem jn_in {a b : List Int} {n : Int} (h : (joind a b n).2 = 0) {p : List Int} (hp : inb (joind a b n).1 p = true) :
    (at0 p n < at0 a n → inb a p = true) ∧ (¬ at0 p n < at0 a n → inb b (p.set n.toNat (at0 p n - at0 a n)) = true) ∧ 0 ≤ at0 p n ∧ at0 p n < at0 a n + at0 b n ∧ p.length = a.length := by
  obtain ⟨w1, w2, w3, w4, w5, w6, w7⟩ := joind_ok h
  rw [w7] at hp
  obtain ⟨j, rfl⟩ := Int.eq_ofNat_of_zero_le w1
  rw [Int.toNat_natCast] at hp ⊢
  obtain ⟨hl, hi⟩ := (inb_iff _ _).1 hp
  rw [List.length_set] at hl hi
  have hj := hi j (by omega)
  rw [at0_set_same _ _ (by omega)] at hj
  refine ⟨fun hlt => (inb_iff _ _).2 ⟨hl, fun k hk => ?_⟩, fun hge => (inb_iff _ _).2 ⟨by simp; omega, fun k hk => ?_⟩, hj.1, hj.2, hl⟩
  · by_cases e : j = k
    · subst e; exact ⟨hj.1, hlt⟩
    · have := hi k hk
      rw [at0_set_other _ _ _ e] at this
      exact this
  · by_cases e : j = k
    · subst e
      rw [at0_set_same _ _ (by omega)]
      omega
    · have := hi k (by omega)
      rw [at0_set_other _ _ _ e] at this
      rw [at0_set_other _ _ _ e, ← jok_at w4 k (by omega) (by omega)]
      exact this
theorem mvd_j {n a b c : Int} {l : List Int} {dims : List (List Int)} (h : (mvd 40 n a b c l dims).2 = 0) : (joind (dims.getD 0 []) (dims.getD 1 []) n).2 = 0 ∧ (mvd 40 n a b c l dims).1 = (joind (dims.getD 0 []) (dims.getD 1 []) n).1 ∧
    (ofv 40 n a b c l dims).2.1 = (alls (joind (dims.getD 0 []) (dims.getD 1 []) n).1).map (jnw (dims.getD 0 []) n) ∧ (ofv 40 n a b c l dims).2.2.1 = (alls (joind (dims.getD 0 []) (dims.getD 1 []) n).1).map (jnf (dims.getD 0 []) (dims.getD 1 []) n) := by
  obtain ⟨w1, w2, w3, w4, w5, w6⟩ := mvd_ok h
  rw [if_neg (by decide), if_neg (by decide), if_pos rfl] at w5
  rw [if_neg (by decide), if_pos rfl] at w6
  rw [w5] at h
  unfold joinv at w6
  rw [if_pos h] at w6
  rw [w5, w6]
  exact ⟨h, rfl, rfl, rfl⟩
theorem at0_alls {d : List Int} (g : List Int → Int) (i : Int) (h0 : 0 ≤ i) (h1 : i < cnt d) : at0 ((alls d).map g) i = g (dig d i) := by
  obtain ⟨j, rfl⟩ := Int.eq_ofNat_of_zero_le h0
  have hl := alls_length d
  rw [at0_get _ _ (by rw [List.length_map]; omega), List.getElem_map, alls_get]
theorem rtk_len {d : List Int} {n : Int} {m : List Int} (h : (rtk d n m).2.2 = 0) : ((rtk d n m).2.1.length : Int) = cnt (rtk d n m).1 := by
  obtain ⟨w1, w2, w3, w4, w5⟩ := rtk_ok2 h
  rw [w5]; exact nums_length _ _ _
theorem ses_len {d : List Int} {op n a b c : Int} {l : List Int} (h : (ses d op n a b c l).2.2 = 0) : ((ses d op n a b c l).2.1.length : Int) = cnt (ses d op n a b c l).1 := by
  unfold ses at h ⊢
  by_cases e1 : op = 33
  · rw [if_pos e1] at h ⊢
    obtain ⟨w1, w2, w3⟩ := rsp_ok h
    have := (cnt_ok w1).2.1
    rw [w3]; simp; omega
  · rw [if_neg e1] at h ⊢
    by_cases e2 : op = 34
    · rw [if_pos e2] at h ⊢
      obtain ⟨w1, w2⟩ := rpm_ok h
      rw [w2]; exact nums_length _ _ _
    · rw [if_neg e2] at h ⊢
      by_cases e3 : op = 35
      · rw [if_pos e3] at h ⊢
        obtain ⟨r1, r2, r3, r4, r5, r6, r7⟩ := rsl_ok h
        rw [r7] at h ⊢
        exact rtk_len h
      · rw [if_neg e3] at h ⊢
        by_cases e4 : op = 36
        · rw [if_pos e4] at h ⊢
          obtain ⟨w1, w2, w3⟩ := rex_ok h
          rw [w3]; exact srcs_length d l w2
        · rw [if_neg e4] at h ⊢
          obtain ⟨r1, r2, r3⟩ := rfl_ok h
          rw [r3] at h ⊢
          exact rtk_len h
end Gr
