-- By wip/gprint.py (this session's), out of the kit's print.py.
import Derived.Test.YtmocfgkdclkgoaaQx0
import Derived.Test.YtmocfgkdclkgoaaQxfRef19Check
namespace Go.Proofs.Ytmocfgkdclkgoaa.Q
open Go.RowKit Go.Proofs.YtmocfgkdclkgoaaW.PrintWords Go.Proofs.YtmocfgkdclkgoaaW.PrintLast Go.Proofs.YtmocfgkdclkgoaaW.PrintMore
attribute [local go_sem] max2_int min2_int max_two min_two max_three min_three max_four min_four   -- for this text's walks alone
set_option linter.unusedVariables false
set_option linter.unusedSimpArgs false

/-! ### gradineref21_Two: function 11 -/
mutual
def gradineref21_Two.l0 : Nat → List Int → List Int → Option (List Int × Int)
 | 0, _, _ => none
 | k + 1, x0, x1 => if (x0.length : Int) < (x1.length : Int) then ((some (([1] : List Int) : List Int)).bind fun zg => (if zg.length + x0.length < 17592186044416 then (gradineref21_Two.l0 k (zg ++ x0) x1) else (none))) else (gradineref21_Two.l1 k x0 x1)
def gradineref21_Two.l1 : Nat → List Int → List Int → Option (List Int × Int)
 | 0, _, _ => none
 | k + 1, x0, x1 => if (x1.length : Int) < (x0.length : Int) then ((some (([1] : List Int) : List Int)).bind fun zh => (if zh.length + x1.length < 17592186044416 then (gradineref21_Two.l1 k x0 (zh ++ x1)) else (none))) else (gradineref21_Two.l2 k x0 x1 ([] : List Int) (x0.length : Int) 0)
def gradineref21_Two.l2 : Nat → List Int → List Int → List Int → Int → Int → Option (List Int × Int)
 | 0, _, _, _, _, _ => none
 | k + 1, x0, x1, x8, x37, x38 => if x38 < x37 then (if 0 ≤ x38 then (if x38 < (x0.length : Int) then (if x38 < (x1.length : Int) then (if (rd x0 x38) = (rd x1 x38) then (if x8.length < 17592186044416 then (gradineref21_Two.l2 k x0 x1 (x8 ++ [mx (rd x0 x38) (rd x1 x38)]) x37 (wrap64 (x38 + 1))) else (none)) else (if (rd x0 x38) = 1 then (if x8.length < 17592186044416 then (gradineref21_Two.l2 k x0 x1 (x8 ++ [mx (rd x0 x38) (rd x1 x38)]) x37 (wrap64 (x38 + 1))) else (none)) else (if (rd x1 x38) = 1 then (if x8.length < 17592186044416 then (gradineref21_Two.l2 k x0 x1 (x8 ++ [mx (rd x0 x38) (rd x1 x38)]) x37 (wrap64 (x38 + 1))) else (none)) else (some (([] : List Int), 8))))) else (none)) else (none)) else (none)) else ((gradineref19_Check.f k x8).bind fun zf => (if zf = 0 then (some (x8, 0)) else (some (([] : List Int), zf))))
end
def gradineref21_Two.f (k : Nat) (l0 : List Int) (l1 : List Int) : Option (List Int × Int) := (gradineref19_Check.f k l0).bind fun zd => ((gradineref19_Check.f k l1).bind fun ze => (if zd = 0 then (if ze = 0 then (gradineref21_Two.l0 k l0 l1) else (some (([] : List Int), ze))) else (some (([] : List Int), zd))))
def gradineref21_Two.T14 : Bool × List (List Nat × List Nat) := (true, [([], []), ([], []), ([0, 1], [0, 1]), ([2], [2]), ([], []), ([], []), ([4, 5], [4, 5]), ([6], [6]), ([3, 7], [3, 7]), ([8], [8]), ([9], [9]), ([9], [9]), ([10, 11, 9], [9, 10, 11]), ([12, 9], [9, 12]), ([13, 9], [9, 13]), ([9, 14], [9, 14]), ([15, 9], [15]), ([16], [16]), ([16], [16]), ([17, 18, 16], [16, 17, 18]), ([19, 16], [16, 19]), ([20, 16], [16, 20]), ([16, 21], [16, 21])])
def gradineref21_Two.B14 : List Nat := [0, 0, 3, 7, 0, 0, 48, 112, 255, 511, 1023, 1023, 4095, 8191, 16383, 32767, 65535, 131071, 131071, 524287, 1048575, 2097151, 4194303]
theorem gradineref21_Two.tab14 : rtab .any (opsOf Try.f11 14) = gradineref21_Two.T14 := by kernel_rfl
theorem gradineref21_Two.bits14 : waitsOk gradineref21_Two.T14.2 gradineref21_Two.B14 = true := by kernel_rfl
def gradineref21_Two.T16 : Bool × List (List Nat × List Nat) := (true, [([], []), ([], []), ([], []), ([1, 2], [1, 2]), ([3], [3]), ([], []), ([], []), ([5, 6], [5, 6]), ([7], [7]), ([4, 8], [4, 8]), ([9], [9]), ([0, 10], [0, 10]), ([11, 11, 0, 1, 2, 3, 4, 5, 6, 7, 8, 9, 10, 11], [0, 11])])
def gradineref21_Two.B16 : List Nat := [0, 0, 0, 6, 14, 0, 0, 96, 224, 510, 1022, 2047, 4095]
theorem gradineref21_Two.tab16 : rtab .any (opsOf Try.f11 16) = gradineref21_Two.T16 := by kernel_rfl
theorem gradineref21_Two.bits16 : waitsOk gradineref21_Two.T16.2 gradineref21_Two.B16 = true := by kernel_rfl
set_option maxHeartbeats 8000000 in
set_option maxRecDepth 100000 in
theorem gradineref21_Two.calls (k : Nat) (P0_ : Nat → Prop) (A0 : Option Addr) (c0 : Nat) (l0 : List Int) (P1_ : Nat → Prop) (A1 : Option Addr) (c1 : Nat) (l1 : List Int) (r1 : List Int) (r2 : Int) (w : World) (hs0 : Kd.V (Kd.int .i64) 3 w w.heap.size (fun k_ => P0_ k_) (.slice A0 l0.length c0) l0) (hs1 : Kd.V (Kd.int .i64) 3 w w.heap.size (fun k_ => P1_ k_) (.slice A1 l1.length c1) l1) (h : gradineref21_Two.f k l0 l1 = some (r1, r2)) :
  Calls Try.prog 11 #[.slice A0 l0.length c0, .slice A1 l1.length c1] w fun e w' => ∃ v0_ : Value, e = .returned (.tuple #[v0_, .int .i64 r2]) ∧ Kd.R (Kd.int .i64) 3 w' w.heap.size (fun k_ => (w.heap.size ≤ k_)) v0_ r1 ∧ Below w.heap.size w w' := by
 have HO0 := aM (show Kd.V (Kd.int .i64) 3 w w.heap.size (fun k_ => ((P0_ k_ ∨ P1_ k_) ∨ w.heap.size ≤ k_)) (.slice A0 l0.length c0) l0 from Kd.V_mono hs0 (fun k_ hk => .inl (.inl hk)))
 have HO1 := aM (show Kd.V (Kd.int .i64) 3 w w.heap.size (fun k_ => ((P0_ k_ ∨ P1_ k_) ∨ w.heap.size ≤ k_)) (.slice A1 l1.length c1) l1 from Kd.V_mono hs1 (fun k_ hk => .inl (.inr hk)))
 have HB := aM (Below.refl w.heap.size w)
 have H : ((gradineref19_Check.f k l0).bind fun zd => ((gradineref19_Check.f k l1).bind fun ze => (if zd = 0 then (if ze = 0 then (gradineref21_Two.l0 k l0 l1) else (some (([] : List Int), ze))) else (some (([] : List Int), zd))))) = some (r1, r2) := h
 clear h
 replace H := Option.bind_eq_some_iff.mp H
 obtain ⟨zd, A30, H⟩ := H
 try dsimp only at H
 have A3 := aM A30
 clear A30
 replace H := Option.bind_eq_some_iff.mp H
 obtain ⟨ze, A40, H⟩ := H
 try dsimp only at H
 have A4 := aM A40
 clear A40
 by_cases c5 : zd = 0
 rotate_left
 ·rw [if_neg c5] at H
  have zv : (zd == 0) = false := beq_eq_false_iff_ne.mpr c5
  have zw : (zd != 0) = true := bne_iff_ne.mpr c5
  simp only [Option.some.injEq, Prod.mk.injEq] at H
  obtain ⟨rfl, rfl⟩ := H
  go_enter Try.func11, Try.ntmps11
  go_wp2_with (first | ((with_reducible refine gate_callee (f := 13) rfl ?_); refine goesL_ (some 11) rfl rfl Try.func13 (by kernel_rfl) rfl #[.slice A0 l0.length c0] rfl pA ?_; (with_reducible refine (gradineref19_Check.calls k _ _ l0 zd _ ?s1 ?s2 A3.out).mono ?_); (case s1 => exact pC (Kd.V_reads' HO0.out).2.2); (case s2 => exact (Kd.V_reads' HO0.out).2.1); rintro e w' ⟨rfl, ⟨nd, rfl⟩⟩; refine ⟨_, rfl, ?_⟩) | ((with_reducible refine gate_callee (f := 13) rfl ?_); refine goesL_ (some 13) rfl rfl Try.func13 (by kernel_rfl) rfl #[.slice A1 l1.length c1] rfl pA ?_; (with_reducible refine (gradineref19_Check.calls k _ _ l1 ze _ ?s1 ?s2 A4.out).mono ?_); (case s1 => exact pC (Kd.V_reads' HO1.out).2.2); (case s2 => exact (Kd.V_reads' HO1.out).2.1); rintro e w' ⟨rfl, ⟨nd, rfl⟩⟩; refine ⟨_, rfl, ?_⟩))
  go_ret2
  exact ⟨_, pE, pN, qB HB⟩

 rw [if_pos c5] at H
 have zv : (zd == 0) = true := beq_iff_eq.mpr c5
 have zw : (zd != 0) = false := bne_eq_false_iff_eq.mpr c5
 clear c5
 by_cases c6 : ze = 0
 rotate_left
 ·rw [if_neg c6] at H
  have zx : (ze == 0) = false := beq_eq_false_iff_ne.mpr c6
  have zy : (ze != 0) = true := bne_iff_ne.mpr c6
  simp only [Option.some.injEq, Prod.mk.injEq] at H
  obtain ⟨rfl, rfl⟩ := H
  go_enter Try.func11, Try.ntmps11
  go_wp2_with (first | ((with_reducible refine gate_callee (f := 13) rfl ?_); refine goesL_ (some 11) rfl rfl Try.func13 (by kernel_rfl) rfl #[.slice A0 l0.length c0] rfl pA ?_; (with_reducible refine (gradineref19_Check.calls k _ _ l0 zd _ ?s1 ?s2 A3.out).mono ?_); (case s1 => exact pC (Kd.V_reads' HO0.out).2.2); (case s2 => exact (Kd.V_reads' HO0.out).2.1); rintro e w' ⟨rfl, ⟨nd, rfl⟩⟩; refine ⟨_, rfl, ?_⟩) | ((with_reducible refine gate_callee (f := 13) rfl ?_); refine goesL_ (some 13) rfl rfl Try.func13 (by kernel_rfl) rfl #[.slice A1 l1.length c1] rfl pA ?_; (with_reducible refine (gradineref19_Check.calls k _ _ l1 ze _ ?s1 ?s2 A4.out).mono ?_); (case s1 => exact pC (Kd.V_reads' HO1.out).2.2); (case s2 => exact (Kd.V_reads' HO1.out).2.1); rintro e w' ⟨rfl, ⟨nd, rfl⟩⟩; refine ⟨_, rfl, ?_⟩))
  go_ret2
  exact ⟨_, pE, pN, qB HB⟩
 rw [if_pos c6] at H
 have zx : (ze == 0) = true := beq_iff_eq.mpr c6
 have zy : (ze != 0) = false := bne_eq_false_iff_eq.mpr c6
 clear c6
 have H' := aM H
 clear H
 go_enter Try.func11, Try.ntmps11
 go_wp2_with (first | ((with_reducible refine gate_callee (f := 13) rfl ?_); refine goesL_ (some 11) rfl rfl Try.func13 (by kernel_rfl) rfl #[.slice A0 l0.length c0] rfl pA ?_; (with_reducible refine (gradineref19_Check.calls k _ _ l0 zd _ ?s1 ?s2 A3.out).mono ?_); (case s1 => exact pC (Kd.V_reads' HO0.out).2.2); (case s2 => exact (Kd.V_reads' HO0.out).2.1); rintro e w' ⟨rfl, ⟨nd, rfl⟩⟩; refine ⟨_, rfl, ?_⟩) | ((with_reducible refine gate_callee (f := 13) rfl ?_); refine goesL_ (some 13) rfl rfl Try.func13 (by kernel_rfl) rfl #[.slice A1 l1.length c1] rfl pA ?_; (with_reducible refine (gradineref19_Check.calls k _ _ l1 ze _ ?s1 ?s2 A4.out).mono ?_); (case s1 => exact pC (Kd.V_reads' HO1.out).2.2); (case s2 => exact (Kd.V_reads' HO1.out).2.1); rintro e w' ⟨rfl, ⟨nd, rfl⟩⟩; refine ⟨_, rfl, ?_⟩))
 go_loopg [0] k (fun kq v0 w' => ∃ (x0_1 : List Int), Aside0 (gradineref21_Two.l0 kq x0_1 l1 = some (r1, r2)) ∧ Aside0 (kq ≤ k) ∧ Aside0 (Kd.V (Kd.int .i64) 3 w' w.heap.size (fun k_ => ((P0_ k_ ∨ P1_ k_) ∨ w.heap.size ≤ k_)) v0 x0_1) ∧ Aside0 (Kd.V (Kd.int .i64) 3 w' w.heap.size (fun k_ => ((P0_ k_ ∨ P1_ k_) ∨ w.heap.size ≤ k_)) (.slice A1 l1.length c1) l1) ∧ Aside0 (Below w.heap.size w w'))
 case atStart => exact ⟨(l0), H', ⟨Nat.le_refl _⟩, ⟨pV HO0.out⟩, ⟨pV HO1.out⟩, ⟨qB HB⟩⟩
 case round =>
  clear H'
  try clear c1
  try clear zv
  try clear zw
  try clear zx
  try clear zy
  obtain ⟨x0_1, HA, HK1, za, zb, HB⟩ := hrel
  cases gk with
  | zero => exact absurd HA.out (by simp [gradineref21_Two.l0])
  | succ k1 =>
   have H := HA.out
   clear HA
   simp only [gradineref21_Two.l0] at H
   by_cases c7 : (x0_1.length : Int) < (l1.length : Int)
   ·rw [if_pos c7] at H
    have zz : decide ((x0_1.length : Int) < (l1.length : Int)) = true := decide_eq_true c7
    have z0 : decide (x0_1.length < l1.length) = true := decide_eq_true (Int.ofNat_lt.mp c7)
    clear c7
    obtain ⟨zg, zi⟩ : ∃ y_ : List Int, y_ = (([1] : List Int)) := ⟨_, rfl⟩
    replace H : (if zg.length + x0_1.length < 17592186044416 then (gradineref21_Two.l0 k1 (zg ++ x0_1) l1) else (none)) = some (r1, r2) := pH zi H
    have zp := aM zi
    clear zi
    by_cases c8 : zg.length + x0_1.length < 17592186044416
    rotate_left
    ·rw [if_neg c8] at H
     exact absurd H (by simp)
    rw [if_pos c8] at H
    have LMc8 := aM c8
    clear c8
    obtain ⟨z1, zj⟩ : ∃ y_ : List Int, y_ = (zg ++ x0_1) := ⟨_, rfl⟩
    replace H : (gradineref21_Two.l0 k1 z1 l1) = some (r1, r2) := pH zj H
    have Ny110 := aM zj
    clear zj
    have H' := aM H
    clear H
    obtain ⟨Ao9, co9, eo9⟩ := Kd.V_slice za.out
    subst eo9
    go_wp2_with (first | ((with_reducible refine gate_dst (N := 25) rfl ?_); refine Kd.R_lit (Kd.int .i64) _ 3 ?hg (N := 25) ?hd (xs := ([1] : List Int)) (inner := [.int .i64 1]) (ok := fun _ => True) (okp := fun _ => True) ?hr ?hp (fun _ hk => hk) trivial (Below.refl _ _) (Nat.le_refl _) (by simp) ?_; (case hd => rfl); (case hg => rfl); (case hr => first | (go_simp; done) | (go_simp; rfl)); (case hp => exact (Reps.one (show Kd.M (Kd.int .i64) _ _ _ 1 [.int .i64 1] from rfl) (Reps.none _ _))); intro v108 w10 ho11 hb hg_ hnew_; clear hg_ hnew_; (first | rw [← zp.out] at ho11 | (simp only [Int.reduceToNat] at ho11; rw [← zp.out] at ho11)); replace za := aM (Kd.V_elder' (pV za.out) (Kd.R_base ho11) hb); replace zb := aM (Kd.V_elder' (pV zb.out) (Kd.R_base ho11) hb); have zq := aM (Kd.R_lower (Kd.R_newM (M := fun k_ => (w.heap.size ≤ k_)) ho11 (below_size (qB HB)) (fun k_ h_ => h_)) (below_size (qB HB))); replace HB := bS (qB HB) hb; clear hb ho11) | ((with_reducible refine gate_builtin (b := .append) (xs := #[.tmp 25, .tmp 26]) rfl ?_); at_builtin; refine Kd.R_append_rows (Kd.int .i64) (w0 := w) w.heap.size rfl (.tmp 25) (.tmp 26) 22 3 (.int .i64 0) 8 rfl Try.underlying22 info3 rfl (by decide) (by omega) v108 zg x0_1 _ _ _ (fun k_ => (w.heap.size ≤ k_)) (fun _ => False) rfl rfl ?aO ?aR (fun _ _ h => h) (fun _ h => h.elim) ?aF ?aB ?aS ?aL ?_; (case aR => exact pC (Kd.V_reads' za.out).2.2); (case aB => exact (qB HB)); (case aF => exact (fun k_ hk => (Nat.le_trans (below_size (qB HB)) hk))); (case aO => exact (by (with_reducible repeat (first | apply rA | apply rN | apply rD)); exact Kd.R_mono zq.out (fun _ hk => hk.1))); (case aS => exact (below_size (qB HB))); (case aL => have := LMc8.out; omega); intro v111 w12 ho hb hg hat; rw [← Ny110.out] at ho; replace za := aM (Kd.V_afterv (ok := (fun k_ => ((P0_ k_ ∨ P1_ k_) ∨ w.heap.size ≤ k_))) (pV za.out) hg hat); replace zb := aM (Kd.V_afterv (ok := (fun k_ => ((P0_ k_ ∨ P1_ k_) ∨ w.heap.size ≤ k_))) (pV zb.out) hg hat); replace HB := aM (hb); have HO112 := aM (ho); clear zq; clear ho hb hg hat))
    go_roundg k1
    case measure => have := HK1.out; omega
    case rel => exact ⟨(z1), H', ⟨by have := HK1.out; omega⟩, ⟨Kd.V_mono (Kd.R_V (pR HO112.out)) (fun k_ hk => by first | exact ⟨(.inr (hk.1)), hk.2⟩ | exact (.inr (hk)))⟩, ⟨by (with_reducible repeat (first | apply Kd.V_alloc | apply Kd.V_drewN | apply Kd.V_drew)); exact Kd.V_mono zb.out (fun _ hk => hk.1)⟩, ⟨qB HB⟩⟩
   rw [if_neg c7] at H
   have zz : decide ((x0_1.length : Int) < (l1.length : Int)) = false := decide_eq_false c7
   have z0 : decide (x0_1.length < l1.length) = false := decide_eq_false (fun h => c7 (Int.ofNat_lt.mpr h))
   clear c7
   have H' := aM H
   clear H
   obtain ⟨z2, z3, eo13⟩ := Kd.V_slice za.out
   subst eo13
   go_wp2
   go_loopg [1] k1 (fun kq v1 w' => ∃ (x1_2 : List Int), Aside0 (gradineref21_Two.l1 kq x0_1 x1_2 = some (r1, r2)) ∧ Aside0 (kq ≤ k1) ∧ Aside0 (Kd.V (Kd.int .i64) 3 w' w.heap.size (fun k_ => ((P0_ k_ ∨ P1_ k_) ∨ w.heap.size ≤ k_)) (.slice z2 x0_1.length z3) x0_1) ∧ Aside0 (Kd.V (Kd.int .i64) 3 w' w.heap.size (fun k_ => ((P0_ k_ ∨ P1_ k_) ∨ w.heap.size ≤ k_)) v1 x1_2) ∧ Aside0 (Below w.heap.size w w'))
   case atStart => exact ⟨(l1), H', ⟨Nat.le_refl _⟩, ⟨pV za.out⟩, ⟨pV zb.out⟩, ⟨qB HB⟩⟩
   case round =>
    clear H'
    try clear zz
    try clear z0
    obtain ⟨x1_2, HA, HK2, za, zb, HB⟩ := hrel
    cases gk with
    | zero => exact absurd HA.out (by simp [gradineref21_Two.l1])
    | succ k2 =>
     have H := HA.out
     clear HA
     simp only [gradineref21_Two.l1] at H
     by_cases c14 : (x1_2.length : Int) < (x0_1.length : Int)
     ·rw [if_pos c14] at H
      have zr : decide ((x1_2.length : Int) < (x0_1.length : Int)) = true := decide_eq_true c14
      have zs : decide (x1_2.length < x0_1.length) = true := decide_eq_true (Int.ofNat_lt.mp c14)
      clear c14
      obtain ⟨zh, zk⟩ : ∃ y_ : List Int, y_ = (([1] : List Int)) := ⟨_, rfl⟩
      replace H : (if zh.length + x1_2.length < 17592186044416 then (gradineref21_Two.l1 k2 x0_1 (zh ++ x1_2)) else (none)) = some (r1, r2) := pH zk H
      have zt := aM zk
      clear zk
      by_cases c15 : zh.length + x1_2.length < 17592186044416
      rotate_left
      ·rw [if_neg c15] at H
       exact absurd H (by simp)
      rw [if_pos c15] at H
      have LMc15 := aM c15
      clear c15
      obtain ⟨z4, zl⟩ : ∃ y_ : List Int, y_ = (zh ++ x1_2) := ⟨_, rfl⟩
      replace H : (gradineref21_Two.l1 k2 x0_1 z4) = some (r1, r2) := pH zl H
      have Ny116 := aM zl
      clear zl
      have H' := aM H
      clear H
      obtain ⟨Ao16, co16, eo16⟩ := Kd.V_slice zb.out
      subst eo16
      go_wp2_with (first | ((with_reducible refine gate_dst (N := 33) rfl ?_); refine Kd.R_lit (Kd.int .i64) _ 3 ?hg (N := 33) ?hd (xs := ([1] : List Int)) (inner := [.int .i64 1]) (ok := fun _ => True) (okp := fun _ => True) ?hr ?hp (fun _ hk => hk) trivial (Below.refl _ _) (Nat.le_refl _) (by simp) ?_; (case hd => rfl); (case hg => rfl); (case hr => first | (go_simp; done) | (go_simp; rfl)); (case hp => exact (Reps.one (show Kd.M (Kd.int .i64) _ _ _ 1 [.int .i64 1] from rfl) (Reps.none _ _))); intro v114 w17 ho18 hb hg_ hnew_; clear hg_ hnew_; (first | rw [← zt.out] at ho18 | (simp only [Int.reduceToNat] at ho18; rw [← zt.out] at ho18)); replace za := aM (Kd.V_elder' (pV za.out) (Kd.R_base ho18) hb); replace zb := aM (Kd.V_elder' (pV zb.out) (Kd.R_base ho18) hb); have zu := aM (Kd.R_lower (Kd.R_newM (M := fun k_ => (w.heap.size ≤ k_)) ho18 (below_size (qB HB)) (fun k_ h_ => h_)) (below_size (qB HB))); replace HB := bS (qB HB) hb; clear hb ho18) | ((with_reducible refine gate_builtin (b := .append) (xs := #[.tmp 33, .tmp 34]) rfl ?_); at_builtin; refine Kd.R_append_rows (Kd.int .i64) (w0 := w) w.heap.size rfl (.tmp 33) (.tmp 34) 22 3 (.int .i64 0) 8 rfl Try.underlying22 info3 rfl (by decide) (by omega) v114 zh x1_2 _ _ _ (fun k_ => (w.heap.size ≤ k_)) (fun _ => False) rfl rfl ?aO ?aR (fun _ _ h => h) (fun _ h => h.elim) ?aF ?aB ?aS ?aL ?_; (case aR => exact pC (Kd.V_reads' zb.out).2.2); (case aB => exact (qB HB)); (case aF => exact (fun k_ hk => (Nat.le_trans (below_size (qB HB)) hk))); (case aO => exact (by (with_reducible repeat (first | apply rA | apply rN | apply rD)); exact Kd.R_mono zu.out (fun _ hk => hk.1))); (case aS => exact (below_size (qB HB))); (case aL => have := LMc15.out; omega); intro v117 w19 ho hb hg hat; rw [← Ny116.out] at ho; replace za := aM (Kd.V_afterv (ok := (fun k_ => ((P0_ k_ ∨ P1_ k_) ∨ w.heap.size ≤ k_))) (pV za.out) hg hat); replace zb := aM (Kd.V_afterv (ok := (fun k_ => ((P0_ k_ ∨ P1_ k_) ∨ w.heap.size ≤ k_))) (pV zb.out) hg hat); replace HB := aM (hb); have HO118 := aM (ho); clear zu; clear ho hb hg hat))
      go_roundg k2
      case measure => have := HK1.out; have := HK2.out; omega
      case rel => exact ⟨(z4), H', ⟨by have := HK1.out; have := HK2.out; omega⟩, ⟨by (with_reducible repeat (first | apply Kd.V_alloc | apply Kd.V_drewN | apply Kd.V_drew)); exact Kd.V_mono za.out (fun _ hk => hk.1)⟩, ⟨Kd.V_mono (Kd.R_V (pR HO118.out)) (fun k_ hk => by first | exact ⟨(.inr (hk.1)), hk.2⟩ | exact (.inr (hk)))⟩, ⟨qB HB⟩⟩
     rw [if_neg c14] at H
     have zr : decide ((x1_2.length : Int) < (x0_1.length : Int)) = false := decide_eq_false c14
     have zs : decide (x1_2.length < x0_1.length) = false := decide_eq_false (fun h => c14 (Int.ofNat_lt.mpr h))
     clear c14
     have H' := aM H
     clear H
     obtain ⟨Ao20, co20, eo20⟩ := Kd.V_slice zb.out
     subst eo20
     go_wp2
     go_loopg [8, 38] k2 (fun kq v8 v38 w' => ∃ (x8_3 : List Int) (x38_3 : Int), v38 = .int .i64 x38_3 ∧ Aside0 (gradineref21_Two.l2 kq x0_1 x1_2 x8_3 (x0_1.length : Int) x38_3 = some (r1, r2)) ∧ Aside0 (kq ≤ k2) ∧ Aside0 (Kd.V (Kd.int .i64) 3 w' w.heap.size (fun k_ => ((P0_ k_ ∨ P1_ k_) ∨ w.heap.size ≤ k_) ∧ some k_ ≠ (v8 : Value).ownBlock) (.slice z2 x0_1.length z3) x0_1) ∧ Aside0 (Kd.V (Kd.int .i64) 3 w' w.heap.size (fun k_ => ((P0_ k_ ∨ P1_ k_) ∨ w.heap.size ≤ k_) ∧ some k_ ≠ (v8 : Value).ownBlock) (.slice Ao20 x1_2.length co20) x1_2) ∧ Aside0 (Kd.R (Kd.int .i64) 3 w' w.heap.size (fun k_ => (w.heap.size ≤ k_)) v8 x8_3) ∧ Aside0 (Below w.heap.size w w'))
     case atStart => exact ⟨(([] : List Int)), (0), (pF), H', ⟨Nat.le_refl _⟩, ⟨by (with_reducible repeat (first | apply Kd.V_alloc | apply Kd.V_drewN | apply Kd.V_drew)); exact Kd.V_mono za.out (fun _ hk => ⟨hk, (by simp [Value.ownBlock])⟩)⟩, ⟨by (with_reducible repeat (first | apply Kd.V_alloc | apply Kd.V_drewN | apply Kd.V_drew)); exact Kd.V_mono zb.out (fun _ hk => ⟨hk, (by simp [Value.ownBlock])⟩)⟩, ⟨pN⟩, ⟨qB HB⟩⟩
     case round =>
      clear H'
      try clear zr
      try clear zs
      obtain ⟨x8_3, x38_3, rfl, HA, HK3, za, zb, zc, HB⟩ := hrel
      cases gk with
      | zero => exact absurd HA.out (by simp [gradineref21_Two.l2])
      | succ k3 =>
       have H := HA.out
       clear HA
       simp only [gradineref21_Two.l2] at H
       by_cases c21 : x38_3 < (x0_1.length : Int)
       rotate_left
       ·rw [if_neg c21] at H
        have c21b0 : decide (x38_3 < (x0_1.length : Int)) = false := decide_eq_false c21
        clear c21
        replace H := Option.bind_eq_some_iff.mp H
        obtain ⟨zf, z5, H⟩ := H
        try dsimp only at H
        have A44 := aM z5
        clear z5
        by_cases c45 : zf = 0
        rotate_left
        ·rw [if_neg c45] at H
         have c45b0 : (zf == 0) = false := beq_eq_false_iff_ne.mpr c45
         have c45b1 : (zf != 0) = true := bne_iff_ne.mpr c45
         simp only [Option.some.injEq, Prod.mk.injEq] at H
         obtain ⟨rfl, rfl⟩ := H
         obtain ⟨Ao47, co47, eo47⟩ := Kd.R_slice zc.out
         subst eo47
         go_wp2_with (first | ((with_reducible refine gate_callee (f := 13) rfl ?_); refine goesL_ (some 78) rfl rfl Try.func13 (by kernel_rfl) rfl #[.slice Ao47 x8_3.length co47] rfl pA ?_; (with_reducible refine (gradineref19_Check.calls k3 _ _ x8_3 zf _ ?s1 ?s2 A44.out).mono ?_); (case s1 => exact sR zc); (case s2 => exact sL zc); rintro e w' ⟨rfl, ⟨nd, rfl⟩⟩; refine ⟨_, rfl, ?_⟩))
         go_ret2
         exact ⟨_, pE, pN, qB HB⟩
        rw [if_pos c45] at H
        have c45b0 : (zf == 0) = true := beq_iff_eq.mpr c45
        have c45b1 : (zf != 0) = false := bne_eq_false_iff_eq.mpr c45
        clear c45
        simp only [Option.some.injEq, Prod.mk.injEq] at H
        obtain ⟨rfl, rfl⟩ := H
        obtain ⟨Ao46, co46, eo46⟩ := Kd.R_slice zc.out
        subst eo46
        go_wp2_with (first | ((with_reducible refine gate_callee (f := 13) rfl ?_); refine goesL_ (some 78) rfl rfl Try.func13 (by kernel_rfl) rfl #[.slice Ao46 x8_3.length co46] rfl pA ?_; (with_reducible refine (gradineref19_Check.calls k3 _ _ x8_3 zf _ ?s1 ?s2 A44.out).mono ?_); (case s1 => exact sR zc); (case s2 => exact sL zc); rintro e w' ⟨rfl, ⟨nd, rfl⟩⟩; refine ⟨_, rfl, ?_⟩))
        go_ret2
        exact ⟨_, pE, pR zc.out, qB HB⟩
       rw [if_pos c21] at H
       have c21b0 : decide (x38_3 < (x0_1.length : Int)) = true := decide_eq_true c21
       clear c21
       by_cases c22 : 0 ≤ x38_3
       rotate_left
       ·rw [if_neg c22] at H
        exact absurd H (by simp)
       rw [if_pos c22] at H
       have c22b0 : decide (0 ≤ x38_3) = true := decide_eq_true c22
       clear c22
       by_cases c23 : x38_3 < (x0_1.length : Int)
       rotate_left
       ·rw [if_neg c23] at H
        exact absurd H (by simp)
       rw [if_pos c23] at H
       have c23b0 : decide (x38_3 < (x0_1.length : Int)) = true := decide_eq_true c23
       clear c23
       by_cases c24 : x38_3 < (x1_2.length : Int)
       rotate_left
       ·rw [if_neg c24] at H
        exact absurd H (by simp)
       rw [if_pos c24] at H
       have c24b0 : decide (x38_3 < (x1_2.length : Int)) = true := decide_eq_true c24
       clear c24
       by_cases c25 : (rd x0_1 x38_3) = (rd x1_2 x38_3)
       ·rw [if_pos c25] at H
        have c25b0 : ((rd x0_1 x38_3) == (rd x1_2 x38_3)) = true := beq_iff_eq.mpr c25
        have c25b1 : ((rd x0_1 x38_3) != (rd x1_2 x38_3)) = false := bne_eq_false_iff_eq.mpr c25
        clear c25
        obtain ⟨ji26, hji26⟩ : ∃ j_ : Int, (mx (rd x0_1 x38_3) (rd x1_2 x38_3)) = j_ := ⟨_, rfl⟩
        replace H : (if x8_3.length < 17592186044416 then (gradineref21_Two.l2 k3 x0_1 x1_2 (x8_3 ++ [ji26]) (x0_1.length : Int) (wrap64 (x38_3 + 1))) else (none)) = some (r1, r2) := by first | (rw [hji26] at H; exact H) | (simp only [hji26] at H ⊢; exact H)
        have hji26_ : (if (rd x0_1 x38_3) < (rd x1_2 x38_3) then (rd x1_2 x38_3) else (rd x0_1 x38_3)) = ji26 := hji26
        by_cases c27 : x8_3.length < 17592186044416
        rotate_left
        ·rw [if_neg c27] at H
         exact absurd H (by simp)
        rw [if_pos c27] at H
        have LMc27 := aM c27
        clear c27
        obtain ⟨z6, zm⟩ : ∃ y_ : List Int, y_ = (x8_3 ++ [ji26]) := ⟨_, rfl⟩
        replace H : (gradineref21_Two.l2 k3 x0_1 x1_2 z6 (x0_1.length : Int) (wrap64 (x38_3 + 1))) = some (r1, r2) := pH zm H
        have Ny123 := aM zm
        clear zm
        have H' := aM H
        clear H
        try go_wp2
        replace za := aM (Kd.V_drew za.out)
        replace zb := aM (Kd.V_drew zb.out)
        replace zc := aM (Kd.R_drew zc.out)
        replace HB := aM (below_drew1 HB.out)
        have p119 : 0 ≤ (x38_3 : Int) := of_decide_eq_true pD
        have q119 : x38_3 < (x0_1.length : Int) := of_decide_eq_true pD
        obtain ⟨ad119, e119, hx119_0⟩ := Kd.at_int (Kd.V_reads' za.out).2.2 x38_3 p119 q119
        cases e119
        replace p119 := eq_true p119
        replace q119 := eq_true q119
        have p120 : 0 ≤ (x38_3 : Int) := of_decide_eq_true pD
        have q120 : x38_3 < (x1_2.length : Int) := of_decide_eq_true pD
        obtain ⟨ad120, e120, hx120_0⟩ := Kd.at_int (Kd.V_reads' zb.out).2.2 x38_3 p120 q120
        cases e120
        replace p120 := eq_true p120
        replace q120 := eq_true q120
        refine start_ (n := 23) (S := fun w' => w'.cell? (ad119.add (x38_3).toNat) = some (.int .i64 (rd x0_1 x38_3)) ∧ w'.cell? (ad120.add (x38_3).toNat) = some (.int .i64 (rd x1_2 x38_3))) (ds := []) (bm 23 0) (by kernel_rfl) rfl rfl ⟨hx119_0, hx120_0⟩ (fun hHeld => ?_); refine with_tabW gradineref21_Two.tab14 gradineref21_Two.bits14 (fun HT_ HW_ => ?_)
        generalize wr.drew = w28 at za zb zc HB hx119_0 hx120_0 hHeld ⊢
        refine pP (i := 0) (N := some 41) (bm 23 1) rfl rfl HT_.out ?_
        refine pP (i := 1) (N := some 42) (bm 23 3) rfl rfl HT_.out ?_
        refine pP (i := 2) (N := some 43) (bm 23 7) rfl rfl HT_.out ?_
        refine pP (i := 4) (N := some 45) (bm 23 23) rfl rfl HT_.out ?_
        refine pP (i := 5) (N := some 46) (bm 23 55) rfl rfl HT_.out ?_
        refine pP (i := 6) (N := some 47) (bm 23 119) rfl rfl HT_.out ?_
        refine pT (i := 3) (N := some 44) (bm 23 127) rfl rfl HT_.out HW_.out hHeld (by rintro w' ⟨s0, s1⟩; go_simp; with_reducible rfl) ?_
        refine pT (i := 7) (N := some 48) (bm 23 255) rfl rfl HT_.out HW_.out hHeld (by rintro w' ⟨s0, s1⟩; go_simp; with_reducible rfl) ?_
        refine pP (i := 8) (N := some 49) (bm 23 511) rfl rfl HT_.out ?_
        refine pP (i := 9) (N := some 50) (bm 23 1023) rfl rfl HT_.out ?_
        refine pure_ (i := 10) (N := some 51) (v := undef) (a' := ?_) (bm 23 2047) rfl rfl (any_of HT_.out (by kernel_rfl)) (fun _ _ _ h => h) (Or.inr ⟨by rfl, rfl⟩) ?_ ?_
        rotate_left
        ·simp only [Act.put, sP, i64_w, i32_w]
         rfl
        refine pure_ (i := 11) (N := some 52) (v := undef) (a' := ?_) (bm 23 4095) rfl rfl (any_of HT_.out (by kernel_rfl)) (fun _ _ _ h => h) (Or.inr ⟨by rfl, rfl⟩) ?_ ?_
        rotate_left
        ·simp only [Act.put, sP, i64_w, i32_w]
         rfl
        refine pure_ (i := 12) (N := some 53) (v := undef) (a' := ?_) (bm 23 8191) rfl rfl (any_of HT_.out (by kernel_rfl)) (fun _ _ _ h => h) (Or.inr ⟨by rfl, rfl⟩) ?_ ?_
        rotate_left
        ·simp only [Act.put, sP, i64_w, i32_w]
         rfl
        refine pure_ (i := 13) (N := some 54) (v := undef) (a' := ?_) (bm 23 16383) rfl rfl (any_of HT_.out (by kernel_rfl)) (fun _ _ _ h => h) (Or.inr ⟨by rfl, rfl⟩) ?_ ?_
        rotate_left
        ·simp only [Act.put, sP, i64_w, i32_w]
         rfl
        refine pure_ (i := 14) (N := some 55) (v := undef) (a' := ?_) (bm 23 32767) rfl rfl (any_of HT_.out (by kernel_rfl)) (fun _ _ _ h => h) (Or.inr ⟨by rfl, rfl⟩) ?_ ?_
        rotate_left
        ·simp only [Act.put, sP, i64_w, i32_w]
         rfl
        refine pP (i := 15) (N := some 56) (bm 23 65535) rfl rfl HT_.out ?_
        refine pP (i := 16) (N := some 57) (bm 23 131071) rfl rfl HT_.out ?_
        refine pure_ (i := 17) (N := some 58) (v := undef) (a' := ?_) (bm 23 262143) rfl rfl (any_of HT_.out (by kernel_rfl)) (fun _ _ _ h => h) (Or.inr ⟨by rfl, rfl⟩) ?_ ?_
        rotate_left
        ·simp only [Act.put, sP, i64_w, i32_w]
         rfl
        refine pure_ (i := 18) (N := some 59) (v := undef) (a' := ?_) (bm 23 524287) rfl rfl (any_of HT_.out (by kernel_rfl)) (fun _ _ _ h => h) (Or.inr ⟨by rfl, rfl⟩) ?_ ?_
        rotate_left
        ·simp only [Act.put, sP, i64_w, i32_w]
         rfl
        refine pure_ (i := 19) (N := some 60) (v := undef) (a' := ?_) (bm 23 1048575) rfl rfl (any_of HT_.out (by kernel_rfl)) (fun _ _ _ h => h) (Or.inr ⟨by rfl, rfl⟩) ?_ ?_
        rotate_left
        ·simp only [Act.put, sP, i64_w, i32_w]
         rfl
        refine pure_ (i := 20) (N := some 61) (v := undef) (a' := ?_) (bm 23 2097151) rfl rfl (any_of HT_.out (by kernel_rfl)) (fun _ _ _ h => h) (Or.inr ⟨by rfl, rfl⟩) ?_ ?_
        rotate_left
        ·simp only [Act.put, sP, i64_w, i32_w]
         rfl
        refine pure_ (i := 21) (N := some 62) (v := undef) (a' := ?_) (bm 23 4194303) rfl rfl (any_of HT_.out (by kernel_rfl)) (fun _ _ _ h => h) (Or.inr ⟨by rfl, rfl⟩) ?_ ?_
        rotate_left
        ·simp only [Act.put, sP, i64_w, i32_w]
         rfl
        refine pP (i := 22) (N := some 63) (bm 23 8388607) rfl rfl HT_.out ?_
        refine done_ (done_of HT_.out (by kernel_rfl)) ?_
        try go_wp2
        replace za := aM (Kd.V_drew za.out)
        replace zb := aM (Kd.V_drew zb.out)
        replace zc := aM (Kd.R_drew zc.out)
        replace HB := aM (below_drew1 HB.out)
        have p121 : 0 ≤ (x38_3 : Int) := of_decide_eq_true pD
        have q121 : x38_3 < (x0_1.length : Int) := of_decide_eq_true pD
        obtain ⟨ad121, e121, hx121_0⟩ := Kd.at_int (Kd.V_reads' za.out).2.2 x38_3 p121 q121
        obtain rfl : ad119 = ad121 := (by injection e121)
        replace p121 := eq_true p121
        replace q121 := eq_true q121
        have p122 : 0 ≤ (x38_3 : Int) := of_decide_eq_true pD
        have q122 : x38_3 < (x1_2.length : Int) := of_decide_eq_true pD
        obtain ⟨ad122, e122, hx122_0⟩ := Kd.at_int (Kd.V_reads' zb.out).2.2 x38_3 p122 q122
        obtain rfl : ad120 = ad122 := (by injection e122)
        replace p122 := eq_true p122
        replace q122 := eq_true q122
        refine start_ (n := 13) (S := fun w' => w'.cell? (ad119.add (x38_3).toNat) = some (.int .i64 (rd x0_1 x38_3)) ∧ w'.cell? (ad120.add (x38_3).toNat) = some (.int .i64 (rd x1_2 x38_3))) (ds := [10, 11]) (bm 13 0) (by kernel_rfl) rfl rfl ⟨hx121_0, hx122_0⟩ (fun hHeld => ?_); refine with_tabW gradineref21_Two.tab16 gradineref21_Two.bits16 (fun HT_ HW_ => ?_)
        generalize w28.drew = w29 at za zb zc HB hx121_0 hx122_0 hHeld ⊢
        refine pP (i := 0) (N := some 64) (bm 13 1) rfl rfl HT_.out ?_
        refine pP (i := 1) (N := some 65) (bm 13 3) rfl rfl HT_.out ?_
        refine pP (i := 2) (N := some 66) (bm 13 7) rfl rfl HT_.out ?_
        refine pP (i := 3) (N := some 67) (bm 13 15) rfl rfl HT_.out ?_
        refine pP (i := 5) (N := some 69) (bm 13 47) rfl rfl HT_.out ?_
        refine pP (i := 6) (N := some 70) (bm 13 111) rfl rfl HT_.out ?_
        refine pP (i := 7) (N := some 71) (bm 13 239) rfl rfl HT_.out ?_
        refine pT (i := 4) (N := some 68) (bm 13 255) rfl rfl HT_.out HW_.out hHeld (by rintro w' ⟨s0, s1⟩; go_simp; with_reducible rfl) ?_
        refine pT (i := 8) (N := some 72) (bm 13 511) rfl rfl HT_.out HW_.out hHeld (by rintro w' ⟨s0, s1⟩; go_simp; with_reducible rfl) ?_
        refine pP (i := 9) (N := some 73) (bm 13 1023) rfl rfl HT_.out ?_
        refine last_ (i := 10) (N := some 74) (bm 13 2047) rfl rfl (one_of HT_.out (by kernel_rfl)) (by decide) (fun K hK => ?_)
        refine value_ (w1 := ?_) (v := ?_) (by rfl) rfl ?_ ?_
        rotate_left 2
        ·go_simp
         constructor
         ·rfl
         ·rfl
        refine hK.out _ _ ?_
        clear hK K
        refine norm_ (a' := ?_) ?_ ?_
        rotate_left
        ·show Act.put _ (some 74) _ = _
         simp only [Act.put, sP, i64_w, i32_w]
         rfl
        refine last_ (i := 11) (N := some 75) (bm 13 4095) rfl rfl (one_of HT_.out (by kernel_rfl)) (by decide) (fun K hK => ?_)
        refine Kd.R_append_step (Kd.int .i64) (w0 := w) w.heap.size (by rfl) (.tmp 64) (.tmp 74) 22 3 (.int .i64 0) 8 rfl Try.underlying22 info3 rfl (by decide) (by omega) u8 x8_3 ji26 [.int .i64 ji26] (fun k_ => (w.heap.size ≤ k_)) (fun _ => False) rfl rfl ?aP (fun _ hk => hk.elim) ?aF ?aO ?aB ?aS ?aL ?_
        (case aP => exact rfl)
        (case aB => exact (qB HB))
        (case aF => exact (fun k_ hk => (Nat.le_trans (below_size (qB HB)) hk)))
        (case aO => exact (pR zc.out))
        (case aS => exact (below_size (qB HB)))
        (case aL => have := LMc27.out; omega)
        intro v124 w30 ho hb hg hat
        rw [← Ny123.out] at ho
        replace za := aM (Kd.V_afterv (ok := (fun k_ => ((P0_ k_ ∨ P1_ k_) ∨ w.heap.size ≤ k_))) (pV za.out) hg hat)
        replace zb := aM (Kd.V_afterv (ok := (fun k_ => ((P0_ k_ ∨ P1_ k_) ∨ w.heap.size ≤ k_))) (pV zb.out) hg hat)
        replace HB := aM (hb)
        have HO125 := aM (ho)
        clear zc
        clear ho hb hg hat
        refine hK.out _ _ ?_
        clear hK K
        refine norm_ (a' := ?_) ?_ ?_
        rotate_left
        ·show Act.put _ (some 75) _ = _
         simp only [Act.put, sP, i64_w, i32_w]
         rfl
        refine pP (i := 12) (N := some 8) (bm 13 8191) rfl rfl HT_.out ?_
        refine done_ (done_of HT_.out (by kernel_rfl)) ?_
        try go_wp2
        go_roundg k3
        case measure => have := HK1.out; have := HK2.out; have := HK3.out; omega
        case rel => exact ⟨(z6), (wrap64 (x38_3 + 1)), (pF), H', ⟨by have := HK1.out; have := HK2.out; have := HK3.out; omega⟩, ⟨pV za.out⟩, ⟨pV zb.out⟩, ⟨pR HO125.out⟩, ⟨qB HB⟩⟩
       rw [if_neg c25] at H
       have c25b0 : ((rd x0_1 x38_3) == (rd x1_2 x38_3)) = false := beq_eq_false_iff_ne.mpr c25
       have c25b1 : ((rd x0_1 x38_3) != (rd x1_2 x38_3)) = true := bne_iff_ne.mpr c25
       by_cases c31 : (rd x0_1 x38_3) = 1
       ·rw [if_pos c31] at H
        have c31b0 : ((rd x0_1 x38_3) == 1) = true := beq_iff_eq.mpr c31
        have c31b1 : ((rd x0_1 x38_3) != 1) = false := bne_eq_false_iff_eq.mpr c31
        clear c31
        obtain ⟨ji32, hji32⟩ : ∃ j_ : Int, (mx (rd x0_1 x38_3) (rd x1_2 x38_3)) = j_ := ⟨_, rfl⟩
        replace H : (if x8_3.length < 17592186044416 then (gradineref21_Two.l2 k3 x0_1 x1_2 (x8_3 ++ [ji32]) (x0_1.length : Int) (wrap64 (x38_3 + 1))) else (none)) = some (r1, r2) := by first | (rw [hji32] at H; exact H) | (simp only [hji32] at H ⊢; exact H)
        have hji32_ : (if (rd x0_1 x38_3) < (rd x1_2 x38_3) then (rd x1_2 x38_3) else (rd x0_1 x38_3)) = ji32 := hji32
        by_cases c33 : x8_3.length < 17592186044416
        rotate_left
        ·rw [if_neg c33] at H
         exact absurd H (by simp)
        rw [if_pos c33] at H
        have LMc33 := aM c33
        clear c33
        obtain ⟨z7, zn⟩ : ∃ y_ : List Int, y_ = (x8_3 ++ [ji32]) := ⟨_, rfl⟩
        replace H : (gradineref21_Two.l2 k3 x0_1 x1_2 z7 (x0_1.length : Int) (wrap64 (x38_3 + 1))) = some (r1, r2) := pH zn H
        have Ny129 := aM zn
        clear zn
        have H' := aM H
        clear H
        try go_wp2
        replace za := aM (Kd.V_drew za.out)
        replace zb := aM (Kd.V_drew zb.out)
        replace zc := aM (Kd.R_drew zc.out)
        replace HB := aM (below_drew1 HB.out)
        have p119 : 0 ≤ (x38_3 : Int) := of_decide_eq_true pD
        have q119 : x38_3 < (x0_1.length : Int) := of_decide_eq_true pD
        obtain ⟨ad119, e119, hx119_0⟩ := Kd.at_int (Kd.V_reads' za.out).2.2 x38_3 p119 q119
        cases e119
        replace p119 := eq_true p119
        replace q119 := eq_true q119
        have p120 : 0 ≤ (x38_3 : Int) := of_decide_eq_true pD
        have q120 : x38_3 < (x1_2.length : Int) := of_decide_eq_true pD
        obtain ⟨ad120, e120, hx120_0⟩ := Kd.at_int (Kd.V_reads' zb.out).2.2 x38_3 p120 q120
        cases e120
        replace p120 := eq_true p120
        replace q120 := eq_true q120
        have p126 : 0 ≤ (x38_3 : Int) := of_decide_eq_true pD
        have q126 : x38_3 < (x0_1.length : Int) := of_decide_eq_true pD
        obtain ⟨ad126, e126, hx126_0⟩ := Kd.at_int (Kd.V_reads' za.out).2.2 x38_3 p126 q126
        obtain rfl : ad119 = ad126 := (by injection e126)
        replace p126 := eq_true p126
        replace q126 := eq_true q126
        refine start_ (n := 23) (S := fun w' => w'.cell? (ad119.add (x38_3).toNat) = some (.int .i64 (rd x0_1 x38_3)) ∧ w'.cell? (ad120.add (x38_3).toNat) = some (.int .i64 (rd x1_2 x38_3)) ∧ w'.cell? (ad119.add (x38_3).toNat) = some (.int .i64 (rd x0_1 x38_3))) (ds := []) (bm 23 0) (by kernel_rfl) rfl rfl ⟨hx119_0, hx120_0, hx126_0⟩ (fun hHeld => ?_); refine with_tabW gradineref21_Two.tab14 gradineref21_Two.bits14 (fun HT_ HW_ => ?_)
        generalize wr.drew = w34 at za zb zc HB hx119_0 hx120_0 hx126_0 hHeld ⊢
        refine pP (i := 0) (N := some 41) (bm 23 1) rfl rfl HT_.out ?_
        refine pP (i := 1) (N := some 42) (bm 23 3) rfl rfl HT_.out ?_
        refine pP (i := 2) (N := some 43) (bm 23 7) rfl rfl HT_.out ?_
        refine pP (i := 4) (N := some 45) (bm 23 23) rfl rfl HT_.out ?_
        refine pP (i := 5) (N := some 46) (bm 23 55) rfl rfl HT_.out ?_
        refine pP (i := 6) (N := some 47) (bm 23 119) rfl rfl HT_.out ?_
        refine pT (i := 3) (N := some 44) (bm 23 127) rfl rfl HT_.out HW_.out hHeld (by rintro w' ⟨s0, s1, s2⟩; go_simp; with_reducible rfl) ?_
        refine pT (i := 7) (N := some 48) (bm 23 255) rfl rfl HT_.out HW_.out hHeld (by rintro w' ⟨s0, s1, s2⟩; go_simp; with_reducible rfl) ?_
        refine pP (i := 8) (N := some 49) (bm 23 511) rfl rfl HT_.out ?_
        refine pP (i := 9) (N := some 50) (bm 23 1023) rfl rfl HT_.out ?_
        refine pP (i := 10) (N := some 51) (bm 23 2047) rfl rfl HT_.out ?_
        refine pP (i := 11) (N := some 52) (bm 23 4095) rfl rfl HT_.out ?_
        refine pP (i := 12) (N := some 53) (bm 23 8191) rfl rfl HT_.out ?_
        refine pT (i := 13) (N := some 54) (bm 23 16383) rfl rfl HT_.out HW_.out hHeld (by rintro w' ⟨s0, s1, s2⟩; go_simp; with_reducible rfl) ?_
        refine pP (i := 14) (N := some 55) (bm 23 32767) rfl rfl HT_.out ?_
        refine pP (i := 15) (N := some 56) (bm 23 65535) rfl rfl HT_.out ?_
        refine pP (i := 16) (N := some 57) (bm 23 131071) rfl rfl HT_.out ?_
        refine pure_ (i := 17) (N := some 58) (v := undef) (a' := ?_) (bm 23 262143) rfl rfl (any_of HT_.out (by kernel_rfl)) (fun _ _ _ h => h) (Or.inr ⟨by rfl, rfl⟩) ?_ ?_
        rotate_left
        ·simp only [Act.put, sP, i64_w, i32_w]
         rfl
        refine pure_ (i := 18) (N := some 59) (v := undef) (a' := ?_) (bm 23 524287) rfl rfl (any_of HT_.out (by kernel_rfl)) (fun _ _ _ h => h) (Or.inr ⟨by rfl, rfl⟩) ?_ ?_
        rotate_left
        ·simp only [Act.put, sP, i64_w, i32_w]
         rfl
        refine pure_ (i := 19) (N := some 60) (v := undef) (a' := ?_) (bm 23 1048575) rfl rfl (any_of HT_.out (by kernel_rfl)) (fun _ _ _ h => h) (Or.inr ⟨by rfl, rfl⟩) ?_ ?_
        rotate_left
        ·simp only [Act.put, sP, i64_w, i32_w]
         rfl
        refine pure_ (i := 20) (N := some 61) (v := undef) (a' := ?_) (bm 23 2097151) rfl rfl (any_of HT_.out (by kernel_rfl)) (fun _ _ _ h => h) (Or.inr ⟨by rfl, rfl⟩) ?_ ?_
        rotate_left
        ·simp only [Act.put, sP, i64_w, i32_w]
         rfl
        refine pure_ (i := 21) (N := some 62) (v := undef) (a' := ?_) (bm 23 4194303) rfl rfl (any_of HT_.out (by kernel_rfl)) (fun _ _ _ h => h) (Or.inr ⟨by rfl, rfl⟩) ?_ ?_
        rotate_left
        ·simp only [Act.put, sP, i64_w, i32_w]
         rfl
        refine pP (i := 22) (N := some 63) (bm 23 8388607) rfl rfl HT_.out ?_
        refine done_ (done_of HT_.out (by kernel_rfl)) ?_
        try go_wp2
        replace za := aM (Kd.V_drew za.out)
        replace zb := aM (Kd.V_drew zb.out)
        replace zc := aM (Kd.R_drew zc.out)
        replace HB := aM (below_drew1 HB.out)
        have p127 : 0 ≤ (x38_3 : Int) := of_decide_eq_true pD
        have q127 : x38_3 < (x0_1.length : Int) := of_decide_eq_true pD
        obtain ⟨ad127, e127, hx127_0⟩ := Kd.at_int (Kd.V_reads' za.out).2.2 x38_3 p127 q127
        obtain rfl : ad119 = ad127 := (by injection e127)
        replace p127 := eq_true p127
        replace q127 := eq_true q127
        have p128 : 0 ≤ (x38_3 : Int) := of_decide_eq_true pD
        have q128 : x38_3 < (x1_2.length : Int) := of_decide_eq_true pD
        obtain ⟨ad128, e128, hx128_0⟩ := Kd.at_int (Kd.V_reads' zb.out).2.2 x38_3 p128 q128
        obtain rfl : ad120 = ad128 := (by injection e128)
        replace p128 := eq_true p128
        replace q128 := eq_true q128
        refine start_ (n := 13) (S := fun w' => w'.cell? (ad119.add (x38_3).toNat) = some (.int .i64 (rd x0_1 x38_3)) ∧ w'.cell? (ad120.add (x38_3).toNat) = some (.int .i64 (rd x1_2 x38_3))) (ds := [10, 11]) (bm 13 0) (by kernel_rfl) rfl rfl ⟨hx127_0, hx128_0⟩ (fun hHeld => ?_); refine with_tabW gradineref21_Two.tab16 gradineref21_Two.bits16 (fun HT_ HW_ => ?_)
        generalize w34.drew = w35 at za zb zc HB hx127_0 hx128_0 hHeld ⊢
        refine pP (i := 0) (N := some 64) (bm 13 1) rfl rfl HT_.out ?_
        refine pP (i := 1) (N := some 65) (bm 13 3) rfl rfl HT_.out ?_
        refine pP (i := 2) (N := some 66) (bm 13 7) rfl rfl HT_.out ?_
        refine pP (i := 3) (N := some 67) (bm 13 15) rfl rfl HT_.out ?_
        refine pP (i := 5) (N := some 69) (bm 13 47) rfl rfl HT_.out ?_
        refine pP (i := 6) (N := some 70) (bm 13 111) rfl rfl HT_.out ?_
        refine pP (i := 7) (N := some 71) (bm 13 239) rfl rfl HT_.out ?_
        refine pT (i := 4) (N := some 68) (bm 13 255) rfl rfl HT_.out HW_.out hHeld (by rintro w' ⟨s0, s1⟩; go_simp; with_reducible rfl) ?_
        refine pT (i := 8) (N := some 72) (bm 13 511) rfl rfl HT_.out HW_.out hHeld (by rintro w' ⟨s0, s1⟩; go_simp; with_reducible rfl) ?_
        refine pP (i := 9) (N := some 73) (bm 13 1023) rfl rfl HT_.out ?_
        refine last_ (i := 10) (N := some 74) (bm 13 2047) rfl rfl (one_of HT_.out (by kernel_rfl)) (by decide) (fun K hK => ?_)
        refine value_ (w1 := ?_) (v := ?_) (by rfl) rfl ?_ ?_
        rotate_left 2
        ·go_simp
         constructor
         ·rfl
         ·rfl
        refine hK.out _ _ ?_
        clear hK K
        refine norm_ (a' := ?_) ?_ ?_
        rotate_left
        ·show Act.put _ (some 74) _ = _
         simp only [Act.put, sP, i64_w, i32_w]
         rfl
        refine last_ (i := 11) (N := some 75) (bm 13 4095) rfl rfl (one_of HT_.out (by kernel_rfl)) (by decide) (fun K hK => ?_)
        refine Kd.R_append_step (Kd.int .i64) (w0 := w) w.heap.size (by rfl) (.tmp 64) (.tmp 74) 22 3 (.int .i64 0) 8 rfl Try.underlying22 info3 rfl (by decide) (by omega) u8 x8_3 ji32 [.int .i64 ji32] (fun k_ => (w.heap.size ≤ k_)) (fun _ => False) rfl rfl ?aP (fun _ hk => hk.elim) ?aF ?aO ?aB ?aS ?aL ?_
        (case aP => exact rfl)
        (case aB => exact (qB HB))
        (case aF => exact (fun k_ hk => (Nat.le_trans (below_size (qB HB)) hk)))
        (case aO => exact (pR zc.out))
        (case aS => exact (below_size (qB HB)))
        (case aL => have := LMc33.out; omega)
        intro v130 w36 ho hb hg hat
        rw [← Ny129.out] at ho
        replace za := aM (Kd.V_afterv (ok := (fun k_ => ((P0_ k_ ∨ P1_ k_) ∨ w.heap.size ≤ k_))) (pV za.out) hg hat)
        replace zb := aM (Kd.V_afterv (ok := (fun k_ => ((P0_ k_ ∨ P1_ k_) ∨ w.heap.size ≤ k_))) (pV zb.out) hg hat)
        replace HB := aM (hb)
        have HO131 := aM (ho)
        clear zc
        clear ho hb hg hat
        refine hK.out _ _ ?_
        clear hK K
        refine norm_ (a' := ?_) ?_ ?_
        rotate_left
        ·show Act.put _ (some 75) _ = _
         simp only [Act.put, sP, i64_w, i32_w]
         rfl
        refine pP (i := 12) (N := some 8) (bm 13 8191) rfl rfl HT_.out ?_
        refine done_ (done_of HT_.out (by kernel_rfl)) ?_
        try go_wp2
        go_roundg k3
        case measure => have := HK1.out; have := HK2.out; have := HK3.out; omega
        case rel => exact ⟨(z7), (wrap64 (x38_3 + 1)), (pF), H', ⟨by have := HK1.out; have := HK2.out; have := HK3.out; omega⟩, ⟨pV za.out⟩, ⟨pV zb.out⟩, ⟨pR HO131.out⟩, ⟨qB HB⟩⟩
       rw [if_neg c31] at H
       have c31b0 : ((rd x0_1 x38_3) == 1) = false := beq_eq_false_iff_ne.mpr c31
       have c31b1 : ((rd x0_1 x38_3) != 1) = true := bne_iff_ne.mpr c31
       by_cases c37 : (rd x1_2 x38_3) = 1
       rotate_left
       ·rw [if_neg c37] at H
        have c37b0 : ((rd x1_2 x38_3) == 1) = false := beq_eq_false_iff_ne.mpr c37
        have c37b1 : ((rd x1_2 x38_3) != 1) = true := bne_iff_ne.mpr c37
        simp only [Option.some.injEq, Prod.mk.injEq] at H
        obtain ⟨rfl, rfl⟩ := H
        try go_wp2
        replace za := aM (Kd.V_drew za.out)
        replace zb := aM (Kd.V_drew zb.out)
        replace zc := aM (Kd.R_drew zc.out)
        replace HB := aM (below_drew1 HB.out)
        have p119 : 0 ≤ (x38_3 : Int) := of_decide_eq_true pD
        have q119 : x38_3 < (x0_1.length : Int) := of_decide_eq_true pD
        obtain ⟨ad119, e119, hx119_0⟩ := Kd.at_int (Kd.V_reads' za.out).2.2 x38_3 p119 q119
        cases e119
        replace p119 := eq_true p119
        replace q119 := eq_true q119
        have p120 : 0 ≤ (x38_3 : Int) := of_decide_eq_true pD
        have q120 : x38_3 < (x1_2.length : Int) := of_decide_eq_true pD
        obtain ⟨ad120, e120, hx120_0⟩ := Kd.at_int (Kd.V_reads' zb.out).2.2 x38_3 p120 q120
        cases e120
        replace p120 := eq_true p120
        replace q120 := eq_true q120
        have p126 : 0 ≤ (x38_3 : Int) := of_decide_eq_true pD
        have q126 : x38_3 < (x0_1.length : Int) := of_decide_eq_true pD
        obtain ⟨ad126, e126, hx126_0⟩ := Kd.at_int (Kd.V_reads' za.out).2.2 x38_3 p126 q126
        obtain rfl : ad119 = ad126 := (by injection e126)
        replace p126 := eq_true p126
        replace q126 := eq_true q126
        have p132 : 0 ≤ (x38_3 : Int) := of_decide_eq_true pD
        have q132 : x38_3 < (x1_2.length : Int) := of_decide_eq_true pD
        obtain ⟨ad132, e132, hx132_0⟩ := Kd.at_int (Kd.V_reads' zb.out).2.2 x38_3 p132 q132
        obtain rfl : ad120 = ad132 := (by injection e132)
        replace p132 := eq_true p132
        replace q132 := eq_true q132
        refine start_ (n := 23) (S := fun w' => w'.cell? (ad119.add (x38_3).toNat) = some (.int .i64 (rd x0_1 x38_3)) ∧ w'.cell? (ad120.add (x38_3).toNat) = some (.int .i64 (rd x1_2 x38_3)) ∧ w'.cell? (ad119.add (x38_3).toNat) = some (.int .i64 (rd x0_1 x38_3)) ∧ w'.cell? (ad120.add (x38_3).toNat) = some (.int .i64 (rd x1_2 x38_3))) (ds := []) (bm 23 0) (by kernel_rfl) rfl rfl ⟨hx119_0, hx120_0, hx126_0, hx132_0⟩ (fun hHeld => ?_); refine with_tabW gradineref21_Two.tab14 gradineref21_Two.bits14 (fun HT_ HW_ => ?_)
        generalize wr.drew = w43 at za zb zc HB hx119_0 hx120_0 hx126_0 hx132_0 hHeld ⊢
        refine pP (i := 0) (N := some 41) (bm 23 1) rfl rfl HT_.out ?_
        refine pP (i := 1) (N := some 42) (bm 23 3) rfl rfl HT_.out ?_
        refine pP (i := 2) (N := some 43) (bm 23 7) rfl rfl HT_.out ?_
        refine pP (i := 4) (N := some 45) (bm 23 23) rfl rfl HT_.out ?_
        refine pP (i := 5) (N := some 46) (bm 23 55) rfl rfl HT_.out ?_
        refine pP (i := 6) (N := some 47) (bm 23 119) rfl rfl HT_.out ?_
        refine pT (i := 3) (N := some 44) (bm 23 127) rfl rfl HT_.out HW_.out hHeld (by rintro w' ⟨s0, s1, s2, s3⟩; go_simp; with_reducible rfl) ?_
        refine pT (i := 7) (N := some 48) (bm 23 255) rfl rfl HT_.out HW_.out hHeld (by rintro w' ⟨s0, s1, s2, s3⟩; go_simp; with_reducible rfl) ?_
        refine pP (i := 8) (N := some 49) (bm 23 511) rfl rfl HT_.out ?_
        refine pP (i := 9) (N := some 50) (bm 23 1023) rfl rfl HT_.out ?_
        refine pP (i := 10) (N := some 51) (bm 23 2047) rfl rfl HT_.out ?_
        refine pP (i := 11) (N := some 52) (bm 23 4095) rfl rfl HT_.out ?_
        refine pP (i := 12) (N := some 53) (bm 23 8191) rfl rfl HT_.out ?_
        refine pT (i := 13) (N := some 54) (bm 23 16383) rfl rfl HT_.out HW_.out hHeld (by rintro w' ⟨s0, s1, s2, s3⟩; go_simp; with_reducible rfl) ?_
        refine pP (i := 14) (N := some 55) (bm 23 32767) rfl rfl HT_.out ?_
        refine pP (i := 15) (N := some 56) (bm 23 65535) rfl rfl HT_.out ?_
        refine pP (i := 16) (N := some 57) (bm 23 131071) rfl rfl HT_.out ?_
        refine pP (i := 17) (N := some 58) (bm 23 262143) rfl rfl HT_.out ?_
        refine pP (i := 18) (N := some 59) (bm 23 524287) rfl rfl HT_.out ?_
        refine pP (i := 19) (N := some 60) (bm 23 1048575) rfl rfl HT_.out ?_
        refine pT (i := 20) (N := some 61) (bm 23 2097151) rfl rfl HT_.out HW_.out hHeld (by rintro w' ⟨s0, s1, s2, s3⟩; go_simp; with_reducible rfl) ?_
        refine pP (i := 21) (N := some 62) (bm 23 4194303) rfl rfl HT_.out ?_
        refine pP (i := 22) (N := some 63) (bm 23 8388607) rfl rfl HT_.out ?_
        refine done_ (done_of HT_.out (by kernel_rfl)) ?_
        try go_wp2
        go_ret2
        exact ⟨_, pE, pN, qB HB⟩
       rw [if_pos c37] at H
       have c37b0 : ((rd x1_2 x38_3) == 1) = true := beq_iff_eq.mpr c37
       have c37b1 : ((rd x1_2 x38_3) != 1) = false := bne_eq_false_iff_eq.mpr c37
       clear c37
       obtain ⟨ji38, hji38⟩ : ∃ j_ : Int, (mx (rd x0_1 x38_3) (rd x1_2 x38_3)) = j_ := ⟨_, rfl⟩
       replace H : (if x8_3.length < 17592186044416 then (gradineref21_Two.l2 k3 x0_1 x1_2 (x8_3 ++ [ji38]) (x0_1.length : Int) (wrap64 (x38_3 + 1))) else (none)) = some (r1, r2) := by first | (rw [hji38] at H; exact H) | (simp only [hji38] at H ⊢; exact H)
       have hji38_ : (if (rd x0_1 x38_3) < (rd x1_2 x38_3) then (rd x1_2 x38_3) else (rd x0_1 x38_3)) = ji38 := hji38
       by_cases c39 : x8_3.length < 17592186044416
       rotate_left
       ·rw [if_neg c39] at H
        exact absurd H (by simp)
       rw [if_pos c39] at H
       have LMc39 := aM c39
       clear c39
       obtain ⟨z8, zo⟩ : ∃ y_ : List Int, y_ = (x8_3 ++ [ji38]) := ⟨_, rfl⟩
       replace H : (gradineref21_Two.l2 k3 x0_1 x1_2 z8 (x0_1.length : Int) (wrap64 (x38_3 + 1))) = some (r1, r2) := pH zo H
       have Ny135 := aM zo
       clear zo
       have H' := aM H
       clear H
       try go_wp2
       replace za := aM (Kd.V_drew za.out)
       replace zb := aM (Kd.V_drew zb.out)
       replace zc := aM (Kd.R_drew zc.out)
       replace HB := aM (below_drew1 HB.out)
       have p119 : 0 ≤ (x38_3 : Int) := of_decide_eq_true pD
       have q119 : x38_3 < (x0_1.length : Int) := of_decide_eq_true pD
       obtain ⟨ad119, e119, hx119_0⟩ := Kd.at_int (Kd.V_reads' za.out).2.2 x38_3 p119 q119
       cases e119
       replace p119 := eq_true p119
       replace q119 := eq_true q119
       have p120 : 0 ≤ (x38_3 : Int) := of_decide_eq_true pD
       have q120 : x38_3 < (x1_2.length : Int) := of_decide_eq_true pD
       obtain ⟨ad120, e120, hx120_0⟩ := Kd.at_int (Kd.V_reads' zb.out).2.2 x38_3 p120 q120
       cases e120
       replace p120 := eq_true p120
       replace q120 := eq_true q120
       have p126 : 0 ≤ (x38_3 : Int) := of_decide_eq_true pD
       have q126 : x38_3 < (x0_1.length : Int) := of_decide_eq_true pD
       obtain ⟨ad126, e126, hx126_0⟩ := Kd.at_int (Kd.V_reads' za.out).2.2 x38_3 p126 q126
       obtain rfl : ad119 = ad126 := (by injection e126)
       replace p126 := eq_true p126
       replace q126 := eq_true q126
       have p132 : 0 ≤ (x38_3 : Int) := of_decide_eq_true pD
       have q132 : x38_3 < (x1_2.length : Int) := of_decide_eq_true pD
       obtain ⟨ad132, e132, hx132_0⟩ := Kd.at_int (Kd.V_reads' zb.out).2.2 x38_3 p132 q132
       obtain rfl : ad120 = ad132 := (by injection e132)
       replace p132 := eq_true p132
       replace q132 := eq_true q132
       refine start_ (n := 23) (S := fun w' => w'.cell? (ad119.add (x38_3).toNat) = some (.int .i64 (rd x0_1 x38_3)) ∧ w'.cell? (ad120.add (x38_3).toNat) = some (.int .i64 (rd x1_2 x38_3)) ∧ w'.cell? (ad119.add (x38_3).toNat) = some (.int .i64 (rd x0_1 x38_3)) ∧ w'.cell? (ad120.add (x38_3).toNat) = some (.int .i64 (rd x1_2 x38_3))) (ds := []) (bm 23 0) (by kernel_rfl) rfl rfl ⟨hx119_0, hx120_0, hx126_0, hx132_0⟩ (fun hHeld => ?_); refine with_tabW gradineref21_Two.tab14 gradineref21_Two.bits14 (fun HT_ HW_ => ?_)
       generalize wr.drew = w40 at za zb zc HB hx119_0 hx120_0 hx126_0 hx132_0 hHeld ⊢
       refine pP (i := 0) (N := some 41) (bm 23 1) rfl rfl HT_.out ?_
       refine pP (i := 1) (N := some 42) (bm 23 3) rfl rfl HT_.out ?_
       refine pP (i := 2) (N := some 43) (bm 23 7) rfl rfl HT_.out ?_
       refine pP (i := 4) (N := some 45) (bm 23 23) rfl rfl HT_.out ?_
       refine pP (i := 5) (N := some 46) (bm 23 55) rfl rfl HT_.out ?_
       refine pP (i := 6) (N := some 47) (bm 23 119) rfl rfl HT_.out ?_
       refine pT (i := 3) (N := some 44) (bm 23 127) rfl rfl HT_.out HW_.out hHeld (by rintro w' ⟨s0, s1, s2, s3⟩; go_simp; with_reducible rfl) ?_
       refine pT (i := 7) (N := some 48) (bm 23 255) rfl rfl HT_.out HW_.out hHeld (by rintro w' ⟨s0, s1, s2, s3⟩; go_simp; with_reducible rfl) ?_
       refine pP (i := 8) (N := some 49) (bm 23 511) rfl rfl HT_.out ?_
       refine pP (i := 9) (N := some 50) (bm 23 1023) rfl rfl HT_.out ?_
       refine pP (i := 10) (N := some 51) (bm 23 2047) rfl rfl HT_.out ?_
       refine pP (i := 11) (N := some 52) (bm 23 4095) rfl rfl HT_.out ?_
       refine pP (i := 12) (N := some 53) (bm 23 8191) rfl rfl HT_.out ?_
       refine pT (i := 13) (N := some 54) (bm 23 16383) rfl rfl HT_.out HW_.out hHeld (by rintro w' ⟨s0, s1, s2, s3⟩; go_simp; with_reducible rfl) ?_
       refine pP (i := 14) (N := some 55) (bm 23 32767) rfl rfl HT_.out ?_
       refine pP (i := 15) (N := some 56) (bm 23 65535) rfl rfl HT_.out ?_
       refine pP (i := 16) (N := some 57) (bm 23 131071) rfl rfl HT_.out ?_
       refine pP (i := 17) (N := some 58) (bm 23 262143) rfl rfl HT_.out ?_
       refine pP (i := 18) (N := some 59) (bm 23 524287) rfl rfl HT_.out ?_
       refine pP (i := 19) (N := some 60) (bm 23 1048575) rfl rfl HT_.out ?_
       refine pT (i := 20) (N := some 61) (bm 23 2097151) rfl rfl HT_.out HW_.out hHeld (by rintro w' ⟨s0, s1, s2, s3⟩; go_simp; with_reducible rfl) ?_
       refine pP (i := 21) (N := some 62) (bm 23 4194303) rfl rfl HT_.out ?_
       refine pP (i := 22) (N := some 63) (bm 23 8388607) rfl rfl HT_.out ?_
       refine done_ (done_of HT_.out (by kernel_rfl)) ?_
       try go_wp2
       replace za := aM (Kd.V_drew za.out)
       replace zb := aM (Kd.V_drew zb.out)
       replace zc := aM (Kd.R_drew zc.out)
       replace HB := aM (below_drew1 HB.out)
       have p133 : 0 ≤ (x38_3 : Int) := of_decide_eq_true pD
       have q133 : x38_3 < (x0_1.length : Int) := of_decide_eq_true pD
       obtain ⟨ad133, e133, hx133_0⟩ := Kd.at_int (Kd.V_reads' za.out).2.2 x38_3 p133 q133
       obtain rfl : ad119 = ad133 := (by injection e133)
       replace p133 := eq_true p133
       replace q133 := eq_true q133
       have p134 : 0 ≤ (x38_3 : Int) := of_decide_eq_true pD
       have q134 : x38_3 < (x1_2.length : Int) := of_decide_eq_true pD
       obtain ⟨ad134, e134, hx134_0⟩ := Kd.at_int (Kd.V_reads' zb.out).2.2 x38_3 p134 q134
       obtain rfl : ad120 = ad134 := (by injection e134)
       replace p134 := eq_true p134
       replace q134 := eq_true q134
       refine start_ (n := 13) (S := fun w' => w'.cell? (ad119.add (x38_3).toNat) = some (.int .i64 (rd x0_1 x38_3)) ∧ w'.cell? (ad120.add (x38_3).toNat) = some (.int .i64 (rd x1_2 x38_3))) (ds := [10, 11]) (bm 13 0) (by kernel_rfl) rfl rfl ⟨hx133_0, hx134_0⟩ (fun hHeld => ?_); refine with_tabW gradineref21_Two.tab16 gradineref21_Two.bits16 (fun HT_ HW_ => ?_)
       generalize w40.drew = w41 at za zb zc HB hx133_0 hx134_0 hHeld ⊢
       refine pP (i := 0) (N := some 64) (bm 13 1) rfl rfl HT_.out ?_
       refine pP (i := 1) (N := some 65) (bm 13 3) rfl rfl HT_.out ?_
       refine pP (i := 2) (N := some 66) (bm 13 7) rfl rfl HT_.out ?_
       refine pP (i := 3) (N := some 67) (bm 13 15) rfl rfl HT_.out ?_
       refine pP (i := 5) (N := some 69) (bm 13 47) rfl rfl HT_.out ?_
       refine pP (i := 6) (N := some 70) (bm 13 111) rfl rfl HT_.out ?_
       refine pP (i := 7) (N := some 71) (bm 13 239) rfl rfl HT_.out ?_
       refine pT (i := 4) (N := some 68) (bm 13 255) rfl rfl HT_.out HW_.out hHeld (by rintro w' ⟨s0, s1⟩; go_simp; with_reducible rfl) ?_
       refine pT (i := 8) (N := some 72) (bm 13 511) rfl rfl HT_.out HW_.out hHeld (by rintro w' ⟨s0, s1⟩; go_simp; with_reducible rfl) ?_
       refine pP (i := 9) (N := some 73) (bm 13 1023) rfl rfl HT_.out ?_
       refine last_ (i := 10) (N := some 74) (bm 13 2047) rfl rfl (one_of HT_.out (by kernel_rfl)) (by decide) (fun K hK => ?_)
       refine value_ (w1 := ?_) (v := ?_) (by rfl) rfl ?_ ?_
       rotate_left 2
       ·go_simp
        constructor
        ·rfl
        ·rfl
       refine hK.out _ _ ?_
       clear hK K
       refine norm_ (a' := ?_) ?_ ?_
       rotate_left
       ·show Act.put _ (some 74) _ = _
        simp only [Act.put, sP, i64_w, i32_w]
        rfl
       refine last_ (i := 11) (N := some 75) (bm 13 4095) rfl rfl (one_of HT_.out (by kernel_rfl)) (by decide) (fun K hK => ?_)
       refine Kd.R_append_step (Kd.int .i64) (w0 := w) w.heap.size (by rfl) (.tmp 64) (.tmp 74) 22 3 (.int .i64 0) 8 rfl Try.underlying22 info3 rfl (by decide) (by omega) u8 x8_3 ji38 [.int .i64 ji38] (fun k_ => (w.heap.size ≤ k_)) (fun _ => False) rfl rfl ?aP (fun _ hk => hk.elim) ?aF ?aO ?aB ?aS ?aL ?_
       (case aP => exact rfl)
       (case aB => exact (qB HB))
       (case aF => exact (fun k_ hk => (Nat.le_trans (below_size (qB HB)) hk)))
       (case aO => exact (pR zc.out))
       (case aS => exact (below_size (qB HB)))
       (case aL => have := LMc39.out; omega)
       intro v136 w42 ho hb hg hat
       rw [← Ny135.out] at ho
       replace za := aM (Kd.V_afterv (ok := (fun k_ => ((P0_ k_ ∨ P1_ k_) ∨ w.heap.size ≤ k_))) (pV za.out) hg hat)
       replace zb := aM (Kd.V_afterv (ok := (fun k_ => ((P0_ k_ ∨ P1_ k_) ∨ w.heap.size ≤ k_))) (pV zb.out) hg hat)
       replace HB := aM (hb)
       have HO137 := aM (ho)
       clear zc
       clear ho hb hg hat
       refine hK.out _ _ ?_
       clear hK K
       refine norm_ (a' := ?_) ?_ ?_
       rotate_left
       ·show Act.put _ (some 75) _ = _
        simp only [Act.put, sP, i64_w, i32_w]
        rfl
       refine pP (i := 12) (N := some 8) (bm 13 8191) rfl rfl HT_.out ?_
       refine done_ (done_of HT_.out (by kernel_rfl)) ?_
       try go_wp2
       go_roundg k3
       case measure => have := HK1.out; have := HK2.out; have := HK3.out; omega
       case rel => exact ⟨(z8), (wrap64 (x38_3 + 1)), (pF), H', ⟨by have := HK1.out; have := HK2.out; have := HK3.out; omega⟩, ⟨pV za.out⟩, ⟨pV zb.out⟩, ⟨pR HO137.out⟩, ⟨qB HB⟩⟩
end Go.Proofs.Ytmocfgkdclkgoaa.Q
