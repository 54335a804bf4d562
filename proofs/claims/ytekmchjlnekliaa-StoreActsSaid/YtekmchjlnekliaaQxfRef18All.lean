-- By wip/gprint.py (this session's), out of the kit's print.py.
import Derived.Test.YtekmchjlnekliaaQx0
import Derived.Test.YtekmchjlnekliaaQxfRef18Same
namespace Go.Proofs.Ytekmchjlnekliaa.Q
open Go.RowKit Go.Proofs.YtekmchjlnekliaaW.PrintWords Go.Proofs.YtekmchjlnekliaaW.PrintLast Go.Proofs.YtekmchjlnekliaaW.PrintMore
attribute [local go_sem] max2_int min2_int max_two min_two max_three min_three max_four min_four   -- for this text's walks alone
set_option linter.unusedVariables false
set_option linter.unusedSimpArgs false

/-! ### gradineref18_All: function 17 -/
def gradineref18_All.l0 : Nat → List (S43) → List (S43) → Int → Int → Option (Bool)
 | 0, _, _, _, _ => none
 | k + 1, x0, x1, x12, x13 => if x13 < x12 then (if 0 ≤ x13 then (if x13 < (x0.length : Int) then (if x13 < (x1.length : Int) then ((gradineref18_Same.f k ((rd_T43 x0 x13).f0.f0) ((rd_T43 x0 x13).f0.f1) ((rd_T43 x0 x13).f0.f2) ((rd_T43 x0 x13).f1) ((rd_T43 x0 x13).f2) ((rd_T43 x1 x13).f0.f0) ((rd_T43 x1 x13).f0.f1) ((rd_T43 x1 x13).f0.f2) ((rd_T43 x1 x13).f1) ((rd_T43 x1 x13).f2)).bind fun zi => (if zi = true then (gradineref18_All.l0 k x0 x1 x12 (wrap64 (x13 + 1))) else (some false))) else (none)) else (none)) else (none)) else (some true)
def gradineref18_All.f (k : Nat) (l0 : List (S43)) (l1 : List (S43)) : Option (Bool) := if (l0.length : Int) = (l1.length : Int) then (gradineref18_All.l0 k l0 l1 (l0.length : Int) 0) else (some false)
def gradineref18_All.T6 : Bool × List (List Nat × List Nat) := (true, [([], []), ([], []), ([0, 1], [0, 1]), ([2], [2]), ([], []), ([], []), ([4, 5], [4, 5]), ([6], [6]), ([3, 7], [3, 7]), ([8], [8])])
def gradineref18_All.B6 : List Nat := [0, 0, 3, 7, 0, 0, 48, 112, 255, 511]
theorem gradineref18_All.tab6 : rtab .any (opsOf Try.f17 6) = gradineref18_All.T6 := by kernel_rfl
theorem gradineref18_All.bits6 : waitsOk gradineref18_All.T6.2 gradineref18_All.B6 = true := by kernel_rfl
set_option maxHeartbeats 8000000 in
set_option maxRecDepth 100000 in
theorem gradineref18_All.calls (k : Nat) (A0 : Option Addr) (c0 : Nat) (l0 : List (S43)) (A1 : Option Addr) (c1 : Nat) (l1 : List (S43)) (r : Bool) (w : World) (hr0 : Kd.C k43 w A0 l0.length l0) (hc0 : l0.length ≤ c0) (hr1 : Kd.C k43 w A1 l1.length l1) (hc1 : l1.length ≤ c1) (h : gradineref18_All.f k l0 l1 = some r) :
  Calls Try.prog 17 #[.slice A0 l0.length c0, .slice A1 l1.length c1] w fun e w' => e = .returned (.bool r) ∧ Below w.heap.size w w' := by
 have hu43 := Try.underlying43
 have HR0 := aM hr0
 have HC0 := aM hc0
 clear hr0 hc0
 have HR1 := aM hr1
 have HC1 := aM hc1
 clear hr1 hc1
 have HB := aM (Below.refl w.heap.size w)
 have H : (if (l0.length : Int) = (l1.length : Int) then (gradineref18_All.l0 k l0 l1 (l0.length : Int) 0) else (some false)) = some r := h
 clear h
 by_cases c3 : (l0.length : Int) = (l1.length : Int)
 rotate_left
 ·rw [if_neg c3] at H
  have zj : ((l0.length : Int) == (l1.length : Int)) = false := beq_eq_false_iff_ne.mpr c3
  have zk : ((l0.length : Int) != (l1.length : Int)) = true := bne_iff_ne.mpr c3
  have zl : (l0.length == l1.length) = false := by first | simpa using c3 | (simp at c3 ⊢; omega)
  obtain rfl := Option.some.inj H
  go_enter Try.func17, Try.ntmps17
  go_wp2
  go_ret
  exact ⟨pE, qB HB⟩

 rw [if_pos c3] at H
 have zj : ((l0.length : Int) == (l1.length : Int)) = true := beq_iff_eq.mpr c3
 have zk : ((l0.length : Int) != (l1.length : Int)) = false := bne_eq_false_iff_eq.mpr c3
 have zl : (l0.length == l1.length) = true := by first | simpa using c3 | (simp at c3 ⊢; omega)
 clear c3
 have H' := aM H
 clear H
 go_enter Try.func17, Try.ntmps17
 go_wp2
 go_loopg [13] k (fun kq v13 w' => ∃ (x13_1 : Int), v13 = .int .i64 x13_1 ∧ Aside0 (gradineref18_All.l0 kq l0 l1 (l0.length : Int) x13_1 = some r) ∧ Aside0 (kq ≤ k) ∧ Aside0 (Below w.heap.size w w'))
 case atStart => exact ⟨(0), (pF), H', ⟨Nat.le_refl _⟩, ⟨qB HB⟩⟩
 case round =>
  clear H'
  try clear c1
  try clear zj
  try clear zk
  try clear zl
  obtain ⟨x13_1, rfl, HA, HK1, HB⟩ := hrel
  cases gk with
  | zero => exact absurd HA.out (by simp [gradineref18_All.l0])
  | succ k1 =>
   have H := HA.out
   clear HA
   simp only [gradineref18_All.l0] at H
   by_cases c4 : x13_1 < (l0.length : Int)
   rotate_left
   ·rw [if_neg c4] at H
    have c4b0 : decide (x13_1 < (l0.length : Int)) = false := decide_eq_false c4
    clear c4
    obtain rfl := Option.some.inj H
    go_wp2
    go_ret
    exact ⟨pE, qB HB⟩
   rw [if_pos c4] at H
   have c4b0 : decide (x13_1 < (l0.length : Int)) = true := decide_eq_true c4
   clear c4
   by_cases c5 : 0 ≤ x13_1
   rotate_left
   ·rw [if_neg c5] at H
    exact absurd H (by simp)
   rw [if_pos c5] at H
   have c5b0 : decide (0 ≤ x13_1) = true := decide_eq_true c5
   clear c5
   by_cases c6 : x13_1 < (l0.length : Int)
   rotate_left
   ·rw [if_neg c6] at H
    exact absurd H (by simp)
   rw [if_pos c6] at H
   have c6b0 : decide (x13_1 < (l0.length : Int)) = true := decide_eq_true c6
   clear c6
   by_cases c7 : x13_1 < (l1.length : Int)
   rotate_left
   ·rw [if_neg c7] at H
    exact absurd H (by simp)
   rw [if_pos c7] at H
   have c7b0 : decide (x13_1 < (l1.length : Int)) = true := decide_eq_true c7
   clear c7
   replace H := Option.bind_eq_some_iff.mp H
   obtain ⟨zi, A80, H⟩ := H
   try dsimp only at H
   have A8 := aM A80
   clear A80
   by_cases c9 : zi = true
   rotate_left
   ·replace c9 := Bool.eq_false_iff.mpr c9
    subst c9
    rw [if_neg (show ¬ (false = true) by decide)] at H
    obtain rfl := Option.some.inj H
    try go_wp2
    replace HB := aM (below_drew1 HB.out)
    have p169 : 0 ≤ (x13_1 : Int) := of_decide_eq_true pD
    have q169 : x13_1 < (l0.length : Int) := of_decide_eq_true pD
    obtain ⟨ad169, A169_1, c169_1, A169_2, c169_2, e169, hx169_0, hx169_1, hx169_2, hx169_3, hx169_4, hl169_1, hi169_1, hl169_2, hi169_2⟩ := at_T43 HR0.out x13_1 p169 q169
    have hw169_4 := hx169_4
    have hw169_3 := hx169_3
    have hw169_2 := hx169_2
    have hw169_1 := hx169_1
    have hw169_0 := hx169_0
    cases e169
    replace hx169_0 := (HB.out.cell (World.block_lt_of_cell? w _ hx169_0)).trans hx169_0
    replace hx169_1 := (HB.out.cell (World.block_lt_of_cell? w _ hx169_1)).trans hx169_1
    replace hx169_2 := (HB.out.cell (World.block_lt_of_cell? w _ hx169_2)).trans hx169_2
    replace hx169_3 := (HB.out.cell (World.block_lt_of_cell? w _ hx169_3)).trans hx169_3
    replace hx169_4 := (HB.out.cell (World.block_lt_of_cell? w _ hx169_4)).trans hx169_4
    have za := aM hi169_1
    have ze := aM hl169_1
    clear hi169_1 hl169_1
    have zb := aM hi169_2
    have zf := aM hl169_2
    clear hi169_2 hl169_2
    replace p169 := eq_true p169
    replace q169 := eq_true q169
    have p170 : 0 ≤ (x13_1 : Int) := of_decide_eq_true pD
    have q170 : x13_1 < (l1.length : Int) := of_decide_eq_true pD
    obtain ⟨ad170, A170_1, c170_1, A170_2, c170_2, e170, hx170_0, hx170_1, hx170_2, hx170_3, hx170_4, hl170_1, hi170_1, hl170_2, hi170_2⟩ := at_T43 HR1.out x13_1 p170 q170
    have hw170_4 := hx170_4
    have hw170_3 := hx170_3
    have hw170_2 := hx170_2
    have hw170_1 := hx170_1
    have hw170_0 := hx170_0
    cases e170
    replace hx170_0 := (HB.out.cell (World.block_lt_of_cell? w _ hx170_0)).trans hx170_0
    replace hx170_1 := (HB.out.cell (World.block_lt_of_cell? w _ hx170_1)).trans hx170_1
    replace hx170_2 := (HB.out.cell (World.block_lt_of_cell? w _ hx170_2)).trans hx170_2
    replace hx170_3 := (HB.out.cell (World.block_lt_of_cell? w _ hx170_3)).trans hx170_3
    replace hx170_4 := (HB.out.cell (World.block_lt_of_cell? w _ hx170_4)).trans hx170_4
    have zc := aM hi170_1
    have zg := aM hl170_1
    clear hi170_1 hl170_1
    have zd := aM hi170_2
    have zh := aM hl170_2
    clear hi170_2 hl170_2
    replace p170 := eq_true p170
    replace q170 := eq_true q170
    refine start_ (n := 10) (S := fun w' => w'.cell? (ad169.add ((x13_1).toNat * 5)) = some (.bool ((rd_T43 l0 x13_1).f0.f0)) ∧ w'.cell? ⟨(ad169.add ((x13_1).toNat * 5)).block, (ad169.add ((x13_1).toNat * 5)).off + 1, none⟩ = some (.slice A169_1 ((rd_T43 l0 x13_1).f0.f1).length c169_1) ∧ w'.cell? ⟨(ad169.add ((x13_1).toNat * 5)).block, (ad169.add ((x13_1).toNat * 5)).off + 2, none⟩ = some (.slice A169_2 ((rd_T43 l0 x13_1).f0.f2).length c169_2) ∧ w'.cell? ⟨(ad169.add ((x13_1).toNat * 5)).block, (ad169.add ((x13_1).toNat * 5)).off + 3, none⟩ = some (.int .u64 ((rd_T43 l0 x13_1).f1)) ∧ w'.cell? ⟨(ad169.add ((x13_1).toNat * 5)).block, (ad169.add ((x13_1).toNat * 5)).off + 4, none⟩ = some (.int .i64 ((rd_T43 l0 x13_1).f2)) ∧ w'.cell? (ad170.add ((x13_1).toNat * 5)) = some (.bool ((rd_T43 l1 x13_1).f0.f0)) ∧ w'.cell? ⟨(ad170.add ((x13_1).toNat * 5)).block, (ad170.add ((x13_1).toNat * 5)).off + 1, none⟩ = some (.slice A170_1 ((rd_T43 l1 x13_1).f0.f1).length c170_1) ∧ w'.cell? ⟨(ad170.add ((x13_1).toNat * 5)).block, (ad170.add ((x13_1).toNat * 5)).off + 2, none⟩ = some (.slice A170_2 ((rd_T43 l1 x13_1).f0.f2).length c170_2) ∧ w'.cell? ⟨(ad170.add ((x13_1).toNat * 5)).block, (ad170.add ((x13_1).toNat * 5)).off + 3, none⟩ = some (.int .u64 ((rd_T43 l1 x13_1).f1)) ∧ w'.cell? ⟨(ad170.add ((x13_1).toNat * 5)).block, (ad170.add ((x13_1).toNat * 5)).off + 4, none⟩ = some (.int .i64 ((rd_T43 l1 x13_1).f2))) (ds := []) (bm 10 0) (by kernel_rfl) rfl rfl ⟨((HB.out.cell (World.block_lt_of_cell? w _ hw169_0)).trans hw169_0), ((HB.out.cell (World.block_lt_of_cell? w _ hw169_1)).trans hw169_1), ((HB.out.cell (World.block_lt_of_cell? w _ hw169_2)).trans hw169_2), ((HB.out.cell (World.block_lt_of_cell? w _ hw169_3)).trans hw169_3), ((HB.out.cell (World.block_lt_of_cell? w _ hw169_4)).trans hw169_4), ((HB.out.cell (World.block_lt_of_cell? w _ hw170_0)).trans hw170_0), ((HB.out.cell (World.block_lt_of_cell? w _ hw170_1)).trans hw170_1), ((HB.out.cell (World.block_lt_of_cell? w _ hw170_2)).trans hw170_2), ((HB.out.cell (World.block_lt_of_cell? w _ hw170_3)).trans hw170_3), ((HB.out.cell (World.block_lt_of_cell? w _ hw170_4)).trans hw170_4)⟩ (fun hHeld => ?_); refine with_tabW gradineref18_All.tab6 gradineref18_All.bits6 (fun HT_ HW_ => ?_)
    generalize wr.drew = w12 at HB za zb zc zd hx169_0 hx169_1 hx169_2 hx169_3 hx169_4 hx170_0 hx170_1 hx170_2 hx170_3 hx170_4 hHeld ⊢
    refine pP (i := 0) (N := some 16) (bm 10 1) rfl rfl HT_.out ?_
    refine pP (i := 1) (N := some 17) (bm 10 3) rfl rfl HT_.out ?_
    refine pP (i := 2) (N := some 18) (bm 10 7) rfl rfl HT_.out ?_
    refine pP (i := 4) (N := some 20) (bm 10 23) rfl rfl HT_.out ?_
    refine pP (i := 5) (N := some 21) (bm 10 55) rfl rfl HT_.out ?_
    refine pP (i := 6) (N := some 22) (bm 10 119) rfl rfl HT_.out ?_
    refine pT (i := 3) (N := some 19) (bm 10 127) rfl rfl HT_.out HW_.out hHeld (by rintro w' ⟨s0, s1, s2, s3, s4, s5, s6, s7, s8, s9⟩; go_simp; with_reducible rfl) ?_
    refine pT (i := 7) (N := some 23) (bm 10 255) rfl rfl HT_.out HW_.out hHeld (by rintro w' ⟨s0, s1, s2, s3, s4, s5, s6, s7, s8, s9⟩; go_simp; with_reducible rfl) ?_
    refine one_ (i := 8) (N := some 24) (bm 10 511) rfl rfl (one_of HT_.out (by kernel_rfl)) (by decide) (fun K hK => ?_)
    refine goes_ Try.func12 (by kernel_rfl) rfl #[.agg #[.bool ((rd_T43 l0 x13_1).f0.f0), .slice A169_1 ((rd_T43 l0 x13_1).f0.f1).length c169_1, .slice A169_2 ((rd_T43 l0 x13_1).f0.f2).length c169_2, .int .u64 ((rd_T43 l0 x13_1).f1), .int .i64 ((rd_T43 l0 x13_1).f2)], .agg #[.bool ((rd_T43 l1 x13_1).f0.f0), .slice A170_1 ((rd_T43 l1 x13_1).f0.f1).length c170_1, .slice A170_2 ((rd_T43 l1 x13_1).f0.f2).length c170_2, .int .u64 ((rd_T43 l1 x13_1).f1), .int .i64 ((rd_T43 l1 x13_1).f2)]] (by rfl) rfl rfl pA ?_
    with_reducible refine (gradineref18_Same.calls k1 ((rd_T43 l0 x13_1).f0.f0) _ _ ((rd_T43 l0 x13_1).f0.f1) _ _ ((rd_T43 l0 x13_1).f0.f2) ((rd_T43 l0 x13_1).f1) ((rd_T43 l0 x13_1).f2) ((rd_T43 l1 x13_1).f0.f0) _ _ ((rd_T43 l1 x13_1).f0.f1) _ _ ((rd_T43 l1 x13_1).f0.f2) ((rd_T43 l1 x13_1).f1) ((rd_T43 l1 x13_1).f2) false _ ?s1 ?s2 ?s3 ?s4 ?s5 ?s6 ?s7 ?s8 A8.out).mono ?_
    (case s1 => exact sC za HB)
    (case s2 => exact ze.out)
    (case s3 => exact sC zb HB)
    (case s4 => exact zf.out)
    (case s5 => exact sC zc HB)
    (case s6 => exact zg.out)
    (case s7 => exact sC zd HB)
    (case s8 => exact zh.out)
    rintro e w13 ⟨rfl, hb⟩
    refine ⟨_, rfl, ?_⟩
    replace HB := bS (qB HB) hb
    (try clear hb)
    refine hK.out _ _ ⟨((HB.out.cell (World.block_lt_of_cell? w _ hw169_0)).trans hw169_0), ((HB.out.cell (World.block_lt_of_cell? w _ hw169_1)).trans hw169_1), ((HB.out.cell (World.block_lt_of_cell? w _ hw169_2)).trans hw169_2), ((HB.out.cell (World.block_lt_of_cell? w _ hw169_3)).trans hw169_3), ((HB.out.cell (World.block_lt_of_cell? w _ hw169_4)).trans hw169_4), ((HB.out.cell (World.block_lt_of_cell? w _ hw170_0)).trans hw170_0), ((HB.out.cell (World.block_lt_of_cell? w _ hw170_1)).trans hw170_1), ((HB.out.cell (World.block_lt_of_cell? w _ hw170_2)).trans hw170_2), ((HB.out.cell (World.block_lt_of_cell? w _ hw170_3)).trans hw170_3), ((HB.out.cell (World.block_lt_of_cell? w _ hw170_4)).trans hw170_4)⟩ (fun hHeld => ?_)
    clear hK K
    refine norm_ (a' := ?_) ?_ ?_
    rotate_left
    ·show Act.put _ (some 24) _ = _
     simp only [Act.put, sP, i64_w, i32_w]
     rfl
    refine pP (i := 9) (N := some 25) (bm 10 1023) rfl rfl HT_.out ?_
    refine done_ (done_of HT_.out (by kernel_rfl)) ?_
    try go_wp2
    go_ret
    exact ⟨pE, qB HB⟩
   subst c9
   rw [if_pos rfl] at H
   have H' := aM H
   clear H
   try go_wp2
   replace HB := aM (below_drew1 HB.out)
   have p169 : 0 ≤ (x13_1 : Int) := of_decide_eq_true pD
   have q169 : x13_1 < (l0.length : Int) := of_decide_eq_true pD
   obtain ⟨ad169, A169_1, c169_1, A169_2, c169_2, e169, hx169_0, hx169_1, hx169_2, hx169_3, hx169_4, hl169_1, hi169_1, hl169_2, hi169_2⟩ := at_T43 HR0.out x13_1 p169 q169
   have hw169_4 := hx169_4
   have hw169_3 := hx169_3
   have hw169_2 := hx169_2
   have hw169_1 := hx169_1
   have hw169_0 := hx169_0
   cases e169
   replace hx169_0 := (HB.out.cell (World.block_lt_of_cell? w _ hx169_0)).trans hx169_0
   replace hx169_1 := (HB.out.cell (World.block_lt_of_cell? w _ hx169_1)).trans hx169_1
   replace hx169_2 := (HB.out.cell (World.block_lt_of_cell? w _ hx169_2)).trans hx169_2
   replace hx169_3 := (HB.out.cell (World.block_lt_of_cell? w _ hx169_3)).trans hx169_3
   replace hx169_4 := (HB.out.cell (World.block_lt_of_cell? w _ hx169_4)).trans hx169_4
   have za := aM hi169_1
   have ze := aM hl169_1
   clear hi169_1 hl169_1
   have zb := aM hi169_2
   have zf := aM hl169_2
   clear hi169_2 hl169_2
   replace p169 := eq_true p169
   replace q169 := eq_true q169
   have p170 : 0 ≤ (x13_1 : Int) := of_decide_eq_true pD
   have q170 : x13_1 < (l1.length : Int) := of_decide_eq_true pD
   obtain ⟨ad170, A170_1, c170_1, A170_2, c170_2, e170, hx170_0, hx170_1, hx170_2, hx170_3, hx170_4, hl170_1, hi170_1, hl170_2, hi170_2⟩ := at_T43 HR1.out x13_1 p170 q170
   have hw170_4 := hx170_4
   have hw170_3 := hx170_3
   have hw170_2 := hx170_2
   have hw170_1 := hx170_1
   have hw170_0 := hx170_0
   cases e170
   replace hx170_0 := (HB.out.cell (World.block_lt_of_cell? w _ hx170_0)).trans hx170_0
   replace hx170_1 := (HB.out.cell (World.block_lt_of_cell? w _ hx170_1)).trans hx170_1
   replace hx170_2 := (HB.out.cell (World.block_lt_of_cell? w _ hx170_2)).trans hx170_2
   replace hx170_3 := (HB.out.cell (World.block_lt_of_cell? w _ hx170_3)).trans hx170_3
   replace hx170_4 := (HB.out.cell (World.block_lt_of_cell? w _ hx170_4)).trans hx170_4
   have zc := aM hi170_1
   have zg := aM hl170_1
   clear hi170_1 hl170_1
   have zd := aM hi170_2
   have zh := aM hl170_2
   clear hi170_2 hl170_2
   replace p170 := eq_true p170
   replace q170 := eq_true q170
   refine start_ (n := 10) (S := fun w' => w'.cell? (ad169.add ((x13_1).toNat * 5)) = some (.bool ((rd_T43 l0 x13_1).f0.f0)) ∧ w'.cell? ⟨(ad169.add ((x13_1).toNat * 5)).block, (ad169.add ((x13_1).toNat * 5)).off + 1, none⟩ = some (.slice A169_1 ((rd_T43 l0 x13_1).f0.f1).length c169_1) ∧ w'.cell? ⟨(ad169.add ((x13_1).toNat * 5)).block, (ad169.add ((x13_1).toNat * 5)).off + 2, none⟩ = some (.slice A169_2 ((rd_T43 l0 x13_1).f0.f2).length c169_2) ∧ w'.cell? ⟨(ad169.add ((x13_1).toNat * 5)).block, (ad169.add ((x13_1).toNat * 5)).off + 3, none⟩ = some (.int .u64 ((rd_T43 l0 x13_1).f1)) ∧ w'.cell? ⟨(ad169.add ((x13_1).toNat * 5)).block, (ad169.add ((x13_1).toNat * 5)).off + 4, none⟩ = some (.int .i64 ((rd_T43 l0 x13_1).f2)) ∧ w'.cell? (ad170.add ((x13_1).toNat * 5)) = some (.bool ((rd_T43 l1 x13_1).f0.f0)) ∧ w'.cell? ⟨(ad170.add ((x13_1).toNat * 5)).block, (ad170.add ((x13_1).toNat * 5)).off + 1, none⟩ = some (.slice A170_1 ((rd_T43 l1 x13_1).f0.f1).length c170_1) ∧ w'.cell? ⟨(ad170.add ((x13_1).toNat * 5)).block, (ad170.add ((x13_1).toNat * 5)).off + 2, none⟩ = some (.slice A170_2 ((rd_T43 l1 x13_1).f0.f2).length c170_2) ∧ w'.cell? ⟨(ad170.add ((x13_1).toNat * 5)).block, (ad170.add ((x13_1).toNat * 5)).off + 3, none⟩ = some (.int .u64 ((rd_T43 l1 x13_1).f1)) ∧ w'.cell? ⟨(ad170.add ((x13_1).toNat * 5)).block, (ad170.add ((x13_1).toNat * 5)).off + 4, none⟩ = some (.int .i64 ((rd_T43 l1 x13_1).f2))) (ds := []) (bm 10 0) (by kernel_rfl) rfl rfl ⟨((HB.out.cell (World.block_lt_of_cell? w _ hw169_0)).trans hw169_0), ((HB.out.cell (World.block_lt_of_cell? w _ hw169_1)).trans hw169_1), ((HB.out.cell (World.block_lt_of_cell? w _ hw169_2)).trans hw169_2), ((HB.out.cell (World.block_lt_of_cell? w _ hw169_3)).trans hw169_3), ((HB.out.cell (World.block_lt_of_cell? w _ hw169_4)).trans hw169_4), ((HB.out.cell (World.block_lt_of_cell? w _ hw170_0)).trans hw170_0), ((HB.out.cell (World.block_lt_of_cell? w _ hw170_1)).trans hw170_1), ((HB.out.cell (World.block_lt_of_cell? w _ hw170_2)).trans hw170_2), ((HB.out.cell (World.block_lt_of_cell? w _ hw170_3)).trans hw170_3), ((HB.out.cell (World.block_lt_of_cell? w _ hw170_4)).trans hw170_4)⟩ (fun hHeld => ?_); refine with_tabW gradineref18_All.tab6 gradineref18_All.bits6 (fun HT_ HW_ => ?_)
   generalize wr.drew = w10 at HB za zb zc zd hx169_0 hx169_1 hx169_2 hx169_3 hx169_4 hx170_0 hx170_1 hx170_2 hx170_3 hx170_4 hHeld ⊢
   refine pP (i := 0) (N := some 16) (bm 10 1) rfl rfl HT_.out ?_
   refine pP (i := 1) (N := some 17) (bm 10 3) rfl rfl HT_.out ?_
   refine pP (i := 2) (N := some 18) (bm 10 7) rfl rfl HT_.out ?_
   refine pP (i := 4) (N := some 20) (bm 10 23) rfl rfl HT_.out ?_
   refine pP (i := 5) (N := some 21) (bm 10 55) rfl rfl HT_.out ?_
   refine pP (i := 6) (N := some 22) (bm 10 119) rfl rfl HT_.out ?_
   refine pT (i := 3) (N := some 19) (bm 10 127) rfl rfl HT_.out HW_.out hHeld (by rintro w' ⟨s0, s1, s2, s3, s4, s5, s6, s7, s8, s9⟩; go_simp; with_reducible rfl) ?_
   refine pT (i := 7) (N := some 23) (bm 10 255) rfl rfl HT_.out HW_.out hHeld (by rintro w' ⟨s0, s1, s2, s3, s4, s5, s6, s7, s8, s9⟩; go_simp; with_reducible rfl) ?_
   refine one_ (i := 8) (N := some 24) (bm 10 511) rfl rfl (one_of HT_.out (by kernel_rfl)) (by decide) (fun K hK => ?_)
   refine goes_ Try.func12 (by kernel_rfl) rfl #[.agg #[.bool ((rd_T43 l0 x13_1).f0.f0), .slice A169_1 ((rd_T43 l0 x13_1).f0.f1).length c169_1, .slice A169_2 ((rd_T43 l0 x13_1).f0.f2).length c169_2, .int .u64 ((rd_T43 l0 x13_1).f1), .int .i64 ((rd_T43 l0 x13_1).f2)], .agg #[.bool ((rd_T43 l1 x13_1).f0.f0), .slice A170_1 ((rd_T43 l1 x13_1).f0.f1).length c170_1, .slice A170_2 ((rd_T43 l1 x13_1).f0.f2).length c170_2, .int .u64 ((rd_T43 l1 x13_1).f1), .int .i64 ((rd_T43 l1 x13_1).f2)]] (by rfl) rfl rfl pA ?_
   with_reducible refine (gradineref18_Same.calls k1 ((rd_T43 l0 x13_1).f0.f0) _ _ ((rd_T43 l0 x13_1).f0.f1) _ _ ((rd_T43 l0 x13_1).f0.f2) ((rd_T43 l0 x13_1).f1) ((rd_T43 l0 x13_1).f2) ((rd_T43 l1 x13_1).f0.f0) _ _ ((rd_T43 l1 x13_1).f0.f1) _ _ ((rd_T43 l1 x13_1).f0.f2) ((rd_T43 l1 x13_1).f1) ((rd_T43 l1 x13_1).f2) true _ ?s1 ?s2 ?s3 ?s4 ?s5 ?s6 ?s7 ?s8 A8.out).mono ?_
   (case s1 => exact sC za HB)
   (case s2 => exact ze.out)
   (case s3 => exact sC zb HB)
   (case s4 => exact zf.out)
   (case s5 => exact sC zc HB)
   (case s6 => exact zg.out)
   (case s7 => exact sC zd HB)
   (case s8 => exact zh.out)
   rintro e w11 ⟨rfl, hb⟩
   refine ⟨_, rfl, ?_⟩
   replace HB := bS (qB HB) hb
   (try clear hb)
   refine hK.out _ _ ⟨((HB.out.cell (World.block_lt_of_cell? w _ hw169_0)).trans hw169_0), ((HB.out.cell (World.block_lt_of_cell? w _ hw169_1)).trans hw169_1), ((HB.out.cell (World.block_lt_of_cell? w _ hw169_2)).trans hw169_2), ((HB.out.cell (World.block_lt_of_cell? w _ hw169_3)).trans hw169_3), ((HB.out.cell (World.block_lt_of_cell? w _ hw169_4)).trans hw169_4), ((HB.out.cell (World.block_lt_of_cell? w _ hw170_0)).trans hw170_0), ((HB.out.cell (World.block_lt_of_cell? w _ hw170_1)).trans hw170_1), ((HB.out.cell (World.block_lt_of_cell? w _ hw170_2)).trans hw170_2), ((HB.out.cell (World.block_lt_of_cell? w _ hw170_3)).trans hw170_3), ((HB.out.cell (World.block_lt_of_cell? w _ hw170_4)).trans hw170_4)⟩ (fun hHeld => ?_)
   clear hK K
   refine norm_ (a' := ?_) ?_ ?_
   rotate_left
   ·show Act.put _ (some 24) _ = _
    simp only [Act.put, sP, i64_w, i32_w]
    rfl
   refine pP (i := 9) (N := some 25) (bm 10 1023) rfl rfl HT_.out ?_
   refine done_ (done_of HT_.out (by kernel_rfl)) ?_
   try go_wp2
   go_roundg k1
   case measure => have := HK1.out; omega
   case rel => exact ⟨(wrap64 (x13_1 + 1)), (pF), H', ⟨by have := HK1.out; omega⟩, ⟨qB HB⟩⟩
end Go.Proofs.Ytekmchjlnekliaa.Q
