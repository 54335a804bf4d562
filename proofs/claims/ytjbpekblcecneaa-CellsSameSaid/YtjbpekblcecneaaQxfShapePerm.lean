-- By wip/gprint.py (this session's), out of the kit's print.py.
import Derived.Test.YtjbpekblcecneaaQx0
import Derived.Test.YtjbpekblcecneaaQxfShapeAxes
import Derived.Test.YtjbpekblcecneaaQxfShapeCheck
namespace Go.Proofs.Ytjbpekblcecneaa.Q
open Go.RowKit Go.Proofs.YtjbpekblcecneaaW.PrintWords Go.Proofs.YtjbpekblcecneaaW.PrintLast Go.Proofs.YtjbpekblcecneaaW.PrintMore
attribute [local go_sem] max2_int min2_int max_two min_two max_three min_three max_four min_four   -- for this text's walks alone
set_option linter.unusedVariables false
set_option linter.unusedSimpArgs false

/-! ### shape_Perm: function 46 -/
def shape_Perm.l0 : Nat → List Int → List Int → List Int → Int → Int → Option (List Int × Int)
 | 0, _, _, _, _, _ => none
 | k + 1, x0, x9, x32, x33, x34 => if x34 < x33 then (if 0 ≤ x34 then (if x34 < (x32.length : Int) then (if 0 ≤ (rd x32 x34) then (if (rd x32 x34) < (x0.length : Int) then (if x9.length < 17592186044416 then (shape_Perm.l0 k x0 (x9 ++ [rd x0 (rd x32 x34)]) x32 x33 (wrap64 (x34 + 1))) else (none)) else (none)) else (none)) else (none)) else (none)) else (some (x9, 0))
def shape_Perm.f (k : Nat) (l0 : List Int) (l1 : List Int) : Option (List Int × Int) := (shape_Check.f l0).bind fun za => (if za = 0 then (if (l1.length : Int) = (l0.length : Int) then ((shape_Axes.f k (l0.length : Int) l1).bind fun bt149 => (if bt149.2 = 0 then (shape_Perm.l0 k l0 ([] : List Int) l1 (l1.length : Int) 0) else (some (([] : List Int), bt149.2)))) else (some (([] : List Int), 10))) else (some (([] : List Int), za)))
set_option maxHeartbeats 8000000 in
set_option maxRecDepth 100000 in
theorem shape_Perm.calls (k : Nat) (A0 : Option Addr) (c0 : Nat) (l0 : List Int) (A1 : Option Addr) (c1 : Nat) (l1 : List Int) (r1 : List Int) (r2 : Int) (w : World) (hr0 : Kd.C (Kd.int .i64) w A0 l0.length l0) (hc0 : l0.length ≤ c0) (hr1 : Kd.C (Kd.int .i64) w A1 l1.length l1) (hc1 : l1.length ≤ c1) (h : shape_Perm.f k l0 l1 = some (r1, r2)) :
  Calls Try.prog 46 #[.slice A0 l0.length c0, .slice A1 l1.length c1] w fun e w' => ∃ v0_ : Value, e = .returned (.tuple #[v0_, .int .i64 r2]) ∧ Kd.R (Kd.int .i64) 3 w' w.heap.size (fun _ => True) v0_ r1 ∧ Below w.heap.size w w' := by
 have HR0 := aM hr0
 have HC0 := aM hc0
 clear hr0 hc0
 have HR1 := aM hr1
 have HC1 := aM hc1
 clear hr1 hc1
 have HB := aM (Below.refl w.heap.size w)
 have H : ((shape_Check.f l0).bind fun za => (if za = 0 then (if (l1.length : Int) = (l0.length : Int) then ((shape_Axes.f k (l0.length : Int) l1).bind fun bt149 => (if bt149.2 = 0 then (shape_Perm.l0 k l0 ([] : List Int) l1 (l1.length : Int) 0) else (some (([] : List Int), bt149.2)))) else (some (([] : List Int), 10))) else (some (([] : List Int), za)))) = some (r1, r2) := h
 clear h
 replace H := Option.bind_eq_some_iff.mp H
 obtain ⟨za, A30, H⟩ := H
 try dsimp only at H
 have A3 := aM A30
 clear A30
 by_cases c4 : za = 0
 rotate_left
 ·rw [if_neg c4] at H
  have ze : (za == 0) = false := beq_eq_false_iff_ne.mpr c4
  have zf : (za != 0) = true := bne_iff_ne.mpr c4
  simp only [Option.some.injEq, Prod.mk.injEq] at H
  obtain ⟨rfl, rfl⟩ := H
  go_enter Try.func46, Try.ntmps46
  go_wp2_with (first | ((with_reducible refine gate_callee (f := 41) rfl ?_); refine goesL_ (some 13) rfl rfl Try.func41 (by kernel_rfl) rfl #[.slice A0 l0.length c0] rfl pA ?_; (with_reducible refine (shape_Check.calls _ _ l0 za _ ?s1 ?s2 A3.out).mono ?_); (case s1 => exact pC HR0.out); (case s2 => exact HC0.out); rintro e w' ⟨rfl, ⟨nd, rfl⟩⟩; refine ⟨_, rfl, ?_⟩))
  go_ret2
  exact ⟨_, pE, pN, qB HB⟩

 rw [if_pos c4] at H
 have ze : (za == 0) = true := beq_iff_eq.mpr c4
 have zf : (za != 0) = false := bne_eq_false_iff_eq.mpr c4
 clear c4
 by_cases c5 : (l1.length : Int) = (l0.length : Int)
 rotate_left
 ·rw [if_neg c5] at H
  have zg : ((l1.length : Int) == (l0.length : Int)) = false := beq_eq_false_iff_ne.mpr c5
  have zh : ((l1.length : Int) != (l0.length : Int)) = true := bne_iff_ne.mpr c5
  have zi : (l1.length == l0.length) = false := by first | simpa using c5 | (simp at c5 ⊢; omega)
  simp only [Option.some.injEq, Prod.mk.injEq] at H
  obtain ⟨rfl, rfl⟩ := H
  go_enter Try.func46, Try.ntmps46
  go_wp2_with (first | ((with_reducible refine gate_callee (f := 41) rfl ?_); refine goesL_ (some 13) rfl rfl Try.func41 (by kernel_rfl) rfl #[.slice A0 l0.length c0] rfl pA ?_; (with_reducible refine (shape_Check.calls _ _ l0 za _ ?s1 ?s2 A3.out).mono ?_); (case s1 => exact pC HR0.out); (case s2 => exact HC0.out); rintro e w' ⟨rfl, ⟨nd, rfl⟩⟩; refine ⟨_, rfl, ?_⟩))
  go_ret2
  exact ⟨_, pE, pN, qB HB⟩
 rw [if_pos c5] at H
 have zg : ((l1.length : Int) == (l0.length : Int)) = true := beq_iff_eq.mpr c5
 have zh : ((l1.length : Int) != (l0.length : Int)) = false := bne_eq_false_iff_eq.mpr c5
 have zi : (l1.length == l0.length) = true := by first | simpa using c5 | (simp at c5 ⊢; omega)
 clear c5
 replace H := Option.bind_eq_some_iff.mp H
 obtain ⟨⟨zj, zb⟩, A60, H⟩ := H
 try dsimp only at H
 have A6 := aM A60
 clear A60
 by_cases c7 : zb = 0
 rotate_left
 ·rw [if_neg c7] at H
  have zk : (zb == 0) = false := beq_eq_false_iff_ne.mpr c7
  have zl : (zb != 0) = true := bne_iff_ne.mpr c7
  simp only [Option.some.injEq, Prod.mk.injEq] at H
  obtain ⟨rfl, rfl⟩ := H
  go_enter Try.func46, Try.ntmps46
  go_wp2_with (first | ((with_reducible refine gate_callee (f := 41) rfl ?_); refine goesL_ (some 13) rfl rfl Try.func41 (by kernel_rfl) rfl #[.slice A0 l0.length c0] rfl pA ?_; (with_reducible refine (shape_Check.calls _ _ l0 za _ ?s1 ?s2 A3.out).mono ?_); (case s1 => exact pC HR0.out); (case s2 => exact HC0.out); rintro e w' ⟨rfl, ⟨nd, rfl⟩⟩; refine ⟨_, rfl, ?_⟩) | ((with_reducible refine gate_callee (f := 57) rfl ?_); refine goesL_ (some 26) rfl rfl Try.func57 (by kernel_rfl) rfl #[.int .i64 (l0.length : Int), .slice A1 l1.length c1] rfl pA ?_; (with_reducible refine (shape_Axes.calls k (l0.length : Int) _ _ l1 zj zb _ ?s1 ?s2 A6.out).mono ?_); (case s1 => exact pC HR1.out); (case s2 => exact HC1.out); rintro e w16 ⟨v151, rfl, ho0, hb⟩; refine ⟨_, rfl, ?_⟩; have HO152 := aM (Kd.R_lower ho0 (below_size (qB HB))); replace HB := bS (qB HB) hb; (try clear hb); (try clear hk); (try clear hi); (try clear ho0)))
  go_ret2
  exact ⟨_, pE, pN, qB HB⟩
 rw [if_pos c7] at H
 have zk : (zb == 0) = true := beq_iff_eq.mpr c7
 have zl : (zb != 0) = false := bne_eq_false_iff_eq.mpr c7
 clear c7
 have H' := aM H
 clear H
 go_enter Try.func46, Try.ntmps46
 go_wp2_with (first | ((with_reducible refine gate_callee (f := 41) rfl ?_); refine goesL_ (some 13) rfl rfl Try.func41 (by kernel_rfl) rfl #[.slice A0 l0.length c0] rfl pA ?_; (with_reducible refine (shape_Check.calls _ _ l0 za _ ?s1 ?s2 A3.out).mono ?_); (case s1 => exact pC HR0.out); (case s2 => exact HC0.out); rintro e w' ⟨rfl, ⟨nd, rfl⟩⟩; refine ⟨_, rfl, ?_⟩) | ((with_reducible refine gate_callee (f := 57) rfl ?_); refine goesL_ (some 26) rfl rfl Try.func57 (by kernel_rfl) rfl #[.int .i64 (l0.length : Int), .slice A1 l1.length c1] rfl pA ?_; (with_reducible refine (shape_Axes.calls k (l0.length : Int) _ _ l1 zj zb _ ?s1 ?s2 A6.out).mono ?_); (case s1 => exact pC HR1.out); (case s2 => exact HC1.out); rintro e w8 ⟨v151, rfl, ho0, hb⟩; refine ⟨_, rfl, ?_⟩; have HO152 := aM (Kd.R_lower ho0 (below_size (qB HB))); replace HB := bS (qB HB) hb; (try clear hb); (try clear hk); (try clear hi); (try clear ho0)))
 go_loopg [9, 34] k (fun kq v9 v34 w' => ∃ (x9_1 : List Int) (x34_1 : Int), v34 = .int .i64 x34_1 ∧ Aside0 (shape_Perm.l0 kq l0 x9_1 l1 (l1.length : Int) x34_1 = some (r1, r2)) ∧ Aside0 (kq ≤ k) ∧ Aside0 (Kd.R (Kd.int .i64) 3 w' w.heap.size (fun _ => True) v9 x9_1) ∧ Aside0 (Below w.heap.size w w'))
 case atStart => exact ⟨(([] : List Int)), (0), (pF), H', ⟨Nat.le_refl _⟩, ⟨pN⟩, ⟨qB HB⟩⟩
 case round =>
  clear H'
  try clear c1
  try clear ze
  try clear zf
  try clear zg
  try clear zh
  try clear zi
  try clear zk
  try clear zl
  obtain ⟨x9_1, x34_1, rfl, HA, HK1, zd, HB⟩ := hrel
  cases gk with
  | zero => exact absurd HA.out (by simp [shape_Perm.l0])
  | succ k1 =>
   have H := HA.out
   clear HA
   simp only [shape_Perm.l0] at H
   by_cases c9 : x34_1 < (l1.length : Int)
   rotate_left
   ·rw [if_neg c9] at H
    have c9b0 : decide (x34_1 < (l1.length : Int)) = false := decide_eq_false c9
    clear c9
    simp only [Option.some.injEq, Prod.mk.injEq] at H
    obtain ⟨rfl, rfl⟩ := H
    go_wp2
    go_ret2
    exact ⟨_, pE, pR zd.out, qB HB⟩
   rw [if_pos c9] at H
   have c9b0 : decide (x34_1 < (l1.length : Int)) = true := decide_eq_true c9
   clear c9
   by_cases c10 : 0 ≤ x34_1
   rotate_left
   ·rw [if_neg c10] at H
    exact absurd H (by simp)
   rw [if_pos c10] at H
   have c10b0 : decide (0 ≤ x34_1) = true := decide_eq_true c10
   clear c10
   by_cases c11 : x34_1 < (l1.length : Int)
   rotate_left
   ·rw [if_neg c11] at H
    exact absurd H (by simp)
   rw [if_pos c11] at H
   have c11b0 : decide (x34_1 < (l1.length : Int)) = true := decide_eq_true c11
   clear c11
   by_cases c12 : 0 ≤ (rd l1 x34_1)
   rotate_left
   ·rw [if_neg c12] at H
    exact absurd H (by simp)
   rw [if_pos c12] at H
   have c12b0 : decide (0 ≤ (rd l1 x34_1)) = true := decide_eq_true c12
   clear c12
   by_cases c13 : (rd l1 x34_1) < (l0.length : Int)
   rotate_left
   ·rw [if_neg c13] at H
    exact absurd H (by simp)
   rw [if_pos c13] at H
   have c13b0 : decide ((rd l1 x34_1) < (l0.length : Int)) = true := decide_eq_true c13
   clear c13
   by_cases c14 : x9_1.length < 17592186044416
   rotate_left
   ·rw [if_neg c14] at H
    exact absurd H (by simp)
   rw [if_pos c14] at H
   have LMc14 := aM c14
   clear c14
   obtain ⟨zm, zc⟩ : ∃ y_ : List Int, y_ = (x9_1 ++ [rd l0 (rd l1 x34_1)]) := ⟨_, rfl⟩
   replace H : (shape_Perm.l0 k1 l0 zm l1 (l1.length : Int) (wrap64 (x34_1 + 1))) = some (r1, r2) := pH zc H
   have Ny155 := aM zc
   clear zc
   have H' := aM H
   clear H
   have p153 : 0 ≤ (x34_1 : Int) := of_decide_eq_true pD
   have q153 : x34_1 < (l1.length : Int) := of_decide_eq_true pD
   obtain ⟨ad153, e153, hx153_0⟩ := Kd.at_int HR1.out x34_1 p153 q153
   cases e153
   replace hx153_0 := (HB.out.cell (World.block_lt_of_cell? w _ hx153_0)).trans hx153_0
   replace p153 := eq_true p153
   replace q153 := eq_true q153
   have p154 : 0 ≤ ((rd l1 x34_1) : Int) := of_decide_eq_true pD
   have q154 : (rd l1 x34_1) < (l0.length : Int) := of_decide_eq_true pD
   obtain ⟨ad154, e154, hx154_0⟩ := Kd.at_int HR0.out (rd l1 x34_1) p154 q154
   cases e154
   replace hx154_0 := (HB.out.cell (World.block_lt_of_cell? w _ hx154_0)).trans hx154_0
   replace p154 := eq_true p154
   replace q154 := eq_true q154
   go_wp2_with (first | ((with_reducible refine gate_builtin (b := .append) (xs := #[.tmp 38, .tmp 43]) rfl ?_); at_builtin; refine Kd.R_append (Kd.int .i64) (w0 := w) w.heap.size rfl (.tmp 38) (.tmp 43) 22 3 (.int .i64 0) 8 rfl Try.underlying22 info3 rfl (by decide) (by omega) u9 x9_1 (rd l0 (rd l1 x34_1)) [.int .i64 (rd l0 (rd l1 x34_1))] (fun _ => True) (fun _ => False) rfl rfl ?aP (fun _ hk => hk.elim) ?aF ?aO ?aB ?aS ?aL ?_; (case aP => exact rfl); (case aB => exact (qB HB)); (case aF => exact (fun _ _ => trivial)); (case aO => exact (pR zd.out)); (case aS => exact (below_size (qB HB))); (case aL => have := LMc14.out; omega); intro v156 w15 ho hb hg hat; rw [← Ny155.out] at ho; replace HB := aM (hb); have HO157 := aM (ho); clear zd; clear ho hb hg hat))
   go_roundg k1
   case measure => have := HK1.out; omega
   case rel => exact ⟨(zm), (wrap64 (x34_1 + 1)), (pF), H', ⟨by have := HK1.out; omega⟩, ⟨pR HO157.out⟩, ⟨qB HB⟩⟩
end Go.Proofs.Ytjbpekblcecneaa.Q
