-- Written by this session's program wip/gprint.py, which drives the kit's print.py and puts the session's own texts in for some functions.
import Derived.Test.YtpoldofghcmfnaaQx0
import Derived.Test.YtpoldofghcmfnaaQxfShapeAxes
import Derived.Test.YtpoldofghcmfnaaQxfShapeCheck
namespace Go.Proofs.Ytpoldofghcmfnaa.Q
open Go.RowKit Go.Proofs.YtpoldofghcmfnaaW.PrintWords Go.Proofs.YtpoldofghcmfnaaW.PrintLast Go.Proofs.YtpoldofghcmfnaaW.PrintMore
attribute [local go_sem] max2_int min2_int max_two min_two max_three min_three max_four min_four   -- for this text's walks alone
set_option linter.unusedVariables false
set_option linter.unusedSimpArgs false

/-! ### shape_Drop: function 20 -/
def shape_Drop.l0 : Nat → Bool → List Bool → List Int → List Int → Int → Int → Option (List Int × Int)
 | 0, _, _, _, _, _, _ => none
 | k + 1, x2, x9, x11, x29, x30, x31 => if x31 < x30 then (if 0 ≤ x31 then (if x31 < (x29.length : Int) then (if x31 < (x9.length : Int) then (if rdOf false x9 x31 = true then (if x2 = true then (if x11.length < 17592186044416 then (shape_Drop.l0 k x2 x9 (x11 ++ [1]) x29 x30 (wrap64 (x31 + 1))) else (none)) else (shape_Drop.l0 k x2 x9 x11 x29 x30 (wrap64 (x31 + 1)))) else (if x11.length < 17592186044416 then (shape_Drop.l0 k x2 x9 (x11 ++ [rd x29 x31]) x29 x30 (wrap64 (x31 + 1))) else (none))) else (none)) else (none)) else (none)) else (some (x11, 0))
def shape_Drop.f (k : Nat) (l0 : List Int) (l1 : List Int) (a2 : Bool) : Option (List Int × Int) := (shape_Check.f l0).bind fun t148 => (if t148 = 0 then ((shape_Axes.f k (l0.length : Int) l1).bind fun bt149 => (if bt149.2 = 0 then (shape_Drop.l0 k a2 bt149.1 ([] : List Int) l0 (l0.length : Int) 0) else (some (([] : List Int), bt149.2)))) else (some (([] : List Int), t148)))
set_option maxHeartbeats 8000000 in
set_option maxRecDepth 100000 in
theorem shape_Drop.calls (k : Nat) (A0 : Option Addr) (c0 : Nat) (l0 : List Int) (A1 : Option Addr) (c1 : Nat) (l1 : List Int) (a2 : Bool) (r1 : List Int) (r2 : Int) (w : World) (hr0 : Kd.C (Kd.int .i64) w A0 l0.length l0) (hc0 : l0.length ≤ c0) (hr1 : Kd.C (Kd.int .i64) w A1 l1.length l1) (hc1 : l1.length ≤ c1) (h : shape_Drop.f k l0 l1 a2 = some (r1, r2)) :
  Calls Try.prog 20 #[.slice A0 l0.length c0, .slice A1 l1.length c1, .bool a2] w fun e w' => ∃ v0_ : Value, e = .returned (.tuple #[v0_, .int .i64 r2]) ∧ Kd.R (Kd.int .i64) 3 w' w.heap.size (fun _ => True) v0_ r1 ∧ Below w.heap.size w w' := by
 have HR0 := Aside0.mk hr0
 have HC0 := Aside0.mk hc0
 clear hr0 hc0
 have HR1 := Aside0.mk hr1
 have HC1 := Aside0.mk hc1
 clear hr1 hc1
 have HB := Aside0.mk (Below.refl w.heap.size w)
 have H : ((shape_Check.f l0).bind fun t148 => (if t148 = 0 then ((shape_Axes.f k (l0.length : Int) l1).bind fun bt149 => (if bt149.2 = 0 then (shape_Drop.l0 k a2 bt149.1 ([] : List Int) l0 (l0.length : Int) 0) else (some (([] : List Int), bt149.2)))) else (some (([] : List Int), t148)))) = some (r1, r2) := h
 clear h
 replace H := Option.bind_eq_some_iff.mp H
 obtain ⟨t148, A40, H⟩ := H
 replace H : (if t148 = 0 then ((shape_Axes.f k (l0.length : Int) l1).bind fun bt149 => (if bt149.2 = 0 then (shape_Drop.l0 k a2 bt149.1 ([] : List Int) l0 (l0.length : Int) 0) else (some (([] : List Int), bt149.2)))) else (some (([] : List Int), t148))) = some (r1, r2) := H
 have A4 := Aside0.mk A40
 clear A40
 by_cases c5 : t148 = 0
 ·rw [if_pos c5] at H
  have c5b0 : (t148 == 0) = true := beq_iff_eq.mpr c5
  have c5b1 : (t148 != 0) = false := bne_eq_false_iff_eq.mpr c5
  clear c5
  replace H := Option.bind_eq_some_iff.mp H
  obtain ⟨⟨t149, t150⟩, A60, H⟩ := H
  replace H : (if t150 = 0 then (shape_Drop.l0 k a2 t149 ([] : List Int) l0 (l0.length : Int) 0) else (some (([] : List Int), t150))) = some (r1, r2) := H
  have A6 := Aside0.mk A60
  clear A60
  by_cases c7 : t150 = 0
  ·rw [if_pos c7] at H
   have c7b0 : (t150 == 0) = true := beq_iff_eq.mpr c7
   have c7b1 : (t150 != 0) = false := bne_eq_false_iff_eq.mpr c7
   clear c7
   have H' := Aside0.mk H
   clear H
   go_enter Try.func20, Try.ntmps20
   go_wp2_with (first | ((with_reducible refine gate_callee (f := 26) rfl ?_); refine goesL_ (some 15) rfl rfl Try.func26 (by kernel_rfl) rfl #[.slice A0 l0.length c0] rfl pA ?_; (with_reducible refine (shape_Check.calls _ _ l0 t148 _ ?side1 ?side2 A4.out).mono ?_); (case side1 => exact pC HR0.out); (case side2 => exact HC0.out); rintro e w' ⟨rfl, ⟨nd, rfl⟩⟩; refine ⟨_, rfl, ?_⟩) | ((with_reducible refine gate_callee (f := 17) rfl ?_); refine goesL_ (some 23) rfl rfl Try.func17 (by kernel_rfl) rfl #[.int .i64 (l0.length : Int), .slice A1 l1.length c1] rfl pA ?_; (with_reducible refine (shape_Axes.calls k (l0.length : Int) _ _ l1 t149 t150 _ ?side1 ?side2 A6.out).mono ?_); (case side1 => exact pC HR1.out); (case side2 => exact HC1.out); rintro e w8 ⟨v151, rfl, ho0, hb⟩; refine ⟨_, rfl, ?_⟩; have n0_ := Aside0.mk (Kd.R_lower ho0 (below_size (pB HB.out))); have n1_ := Aside0.mk (below_step (pB HB.out) hb); clear HB; have HO152 := n0_; have HB := n1_; clear n0_ n1_; (try clear hb); (try clear hb2); (try clear hk); (try clear hi); (try clear ho0)))
   go_loopg [11, 31] k (fun kq v11 v31 w' => ∃ (x11_1 : List Int) (x31_1 : Int), v31 = .int .i64 x31_1 ∧ Aside0 (shape_Drop.l0 kq a2 t149 x11_1 l0 (l0.length : Int) x31_1 = some (r1, r2)) ∧ Aside0 (kq ≤ k) ∧ Aside0 (Kd.R Kd.bool 4 w' w.heap.size (fun _ => True) v151 t149) ∧ Aside0 (Kd.R (Kd.int .i64) 3 w' w.heap.size (fun _ => True) v11 x11_1) ∧ Aside0 (Below w.heap.size w w'))
   case atStart => exact ⟨(([] : List Int)), (0), (pF), H', ⟨Nat.le_refl _⟩, ⟨pR HO152.out⟩, ⟨by first | exact Kd.R_nil _ _ _ _ _ | exact Kd.N_nil _ _ _ _ _ | exact Kd.V_nil _ _ _ _ _ | exact Kd.Q_nil _ _ _ _ _ | exact Kd.S_nil _ _ _ _ _⟩, ⟨pB HB.out⟩⟩
   case round =>
    clear H'
    try clear c1
    try clear c2
    try clear p2
    try clear c5
    try clear c5b0
    try clear c5b1
    try clear c7
    try clear c7b0
    try clear c7b1
    obtain ⟨x11_1, x31_1, rfl, HA, HK1, HO_9, HO_11, HB⟩ := hrel
    cases gk with
    | zero => exact absurd HA.out (by simp [shape_Drop.l0])
    | succ k1 =>
     have H := HA.out
     clear HA
     simp only [shape_Drop.l0] at H
     by_cases c9 : x31_1 < (l0.length : Int)
     ·rw [if_pos c9] at H
      have c9b0 : decide (x31_1 < (l0.length : Int)) = true := decide_eq_true c9
      clear c9
      by_cases c10 : 0 ≤ x31_1
      ·rw [if_pos c10] at H
       have c10b0 : decide (0 ≤ x31_1) = true := decide_eq_true c10
       clear c10
       by_cases c11 : x31_1 < (l0.length : Int)
       ·rw [if_pos c11] at H
        have c11b0 : decide (x31_1 < (l0.length : Int)) = true := decide_eq_true c11
        clear c11
        by_cases c12 : x31_1 < (t149.length : Int)
        ·rw [if_pos c12] at H
         have c12b0 : decide (x31_1 < (t149.length : Int)) = true := decide_eq_true c12
         clear c12
         obtain ⟨bq13, hbq13⟩ : ∃ b_ : Bool, b_ = (rdOf false t149 x31_1) := ⟨_, rfl⟩
         replace H : (if bq13 = true then (if a2 = true then (if x11_1.length < 17592186044416 then (shape_Drop.l0 k1 a2 t149 (x11_1 ++ [1]) l0 (l0.length : Int) (wrap64 (x31_1 + 1))) else (none)) else (shape_Drop.l0 k1 a2 t149 x11_1 l0 (l0.length : Int) (wrap64 (x31_1 + 1)))) else (if x11_1.length < 17592186044416 then (shape_Drop.l0 k1 a2 t149 (x11_1 ++ [rd l0 x31_1]) l0 (l0.length : Int) (wrap64 (x31_1 + 1))) else (none))) = some (r1, r2) := by rw [← hbq13] at H; exact H
         have Nbq13 := Aside0.mk hbq13
         clear hbq13
         by_cases c14 : bq13 = true
         ·subst c14
          have H1 : (if a2 = true then (if x11_1.length < 17592186044416 then (shape_Drop.l0 k1 a2 t149 (x11_1 ++ [1]) l0 (l0.length : Int) (wrap64 (x31_1 + 1))) else (none)) else (shape_Drop.l0 k1 a2 t149 x11_1 l0 (l0.length : Int) (wrap64 (x31_1 + 1)))) = some (r1, r2) := by rw [if_pos rfl] at H; exact H
          clear H
          have H := H1
          clear H1
          by_cases c15 : a2 = true
          ·subst c15
           have H1 : (if x11_1.length < 17592186044416 then (shape_Drop.l0 k1 true t149 (x11_1 ++ [1]) l0 (l0.length : Int) (wrap64 (x31_1 + 1))) else (none)) = some (r1, r2) := by rw [if_pos rfl] at H; exact H
           clear H
           have H := H1
           clear H1
           by_cases c16 : x11_1.length < 17592186044416
           ·rw [if_pos c16] at H
            have LMc16 := Aside0.mk c16
            clear c16
            obtain ⟨y155, hy155⟩ : ∃ y_ : List Int, y_ = (x11_1 ++ [1]) := ⟨_, rfl⟩
            replace H : (shape_Drop.l0 k1 true t149 y155 l0 (l0.length : Int) (wrap64 (x31_1 + 1))) = some (r1, r2) := by first | (rw [hy155]; with_reducible exact H) | (have H2_ := (Option.bind_some _ _).symm.trans H; rw [hy155]; with_reducible exact H2_) | (have H2_ := (Option.bind_some _ _).symm.trans H; with_reducible exact H2_) | with_reducible exact H | (rw [hy155]; exact H) | exact H
            have Ny155 := Aside0.mk hy155
            clear hy155
            have H' := Aside0.mk H
            clear H
            have p153 : 0 ≤ (x31_1 : Int) := of_decide_eq_true pD
            have q153 : x31_1 < (l0.length : Int) := of_decide_eq_true pD
            obtain ⟨ad153, e153, hx153_0⟩ := Kd.at_int HR0.out x31_1 p153 q153
            cases e153
            replace hx153_0 := (HB.out.cell (World.block_lt_of_cell? w _ hx153_0)).trans hx153_0
            replace p153 := eq_true p153
            replace q153 := eq_true q153
            obtain ⟨Ao17, co17, eo17⟩ := Kd.R_slice HO_9.out
            subst eo17
            have p154 : 0 ≤ (x31_1 : Int) := of_decide_eq_true pD
            have q154 : x31_1 < (t149.length : Int) := of_decide_eq_true pD
            obtain ⟨ad154, e154, hx154_0⟩ := Kd.at_bool (Kd.R_reads' HO_9.out).2.2 x31_1 p154 q154
            (try rw [← Nbq13.out] at hx154_0)
            cases e154
            replace p154 := eq_true p154
            replace q154 := eq_true q154
            go_wp2_with (first | ((with_reducible refine gate_builtin (b := .append) (xs := #[.tmp 48, .tmp 49]) rfl ?_); at_builtin; refine Kd.R_append (Kd.int .i64) (w0 := w) w.heap.size rfl (.tmp 48) (.tmp 49) 22 3 (.int .i64 0) 8 rfl Try.underlying22 info3 rfl (by decide) (by omega) u11 x11_1 1 [.int .i64 1] (fun _ => True) (fun _ => False) rfl rfl ?aP (fun _ hk => hk.elim) ?aF ?aO ?aB ?aS ?aL ?_; (case aP => exact rfl); (case aB => exact (pB HB.out)); (case aF => exact (fun _ _ => trivial)); (case aO => exact (pR HO_11.out)); (case aS => exact (below_size (pB HB.out))); (case aL => have := LMc16.out; omega); intro v156 w18 ho hb hg hat; rw [← Ny155.out] at ho; have n0_ := Aside0.mk (Kd.R_over' (pR HO_9.out) (Kd.R_typed (pR HO_11.out)) (by decide) hg); have n1_ := Aside0.mk (hb); have n2_ := Aside0.mk (ho); clear HO_9; clear HB; clear HO_11; have HO_9 := n0_; have HB := n1_; have HO157 := n2_; clear n0_ n1_ n2_; clear ho hb hg hat))
            go_roundg k1
            case measure => have := HK1.out; omega
            case rel => exact ⟨(y155), (wrap64 (x31_1 + 1)), (pF), H', ⟨by have := HK1.out; omega⟩, ⟨pR HO_9.out⟩, ⟨pR HO157.out⟩, ⟨pB HB.out⟩⟩
           ·rw [if_neg c16] at H
            exact absurd H (by simp)
          ·replace c15 := Bool.eq_false_iff.mpr c15
           subst c15
           have H1 : (shape_Drop.l0 k1 false t149 x11_1 l0 (l0.length : Int) (wrap64 (x31_1 + 1))) = some (r1, r2) := by rw [if_neg (show ¬ (false = true) by decide)] at H; exact H
           clear H
           have H := H1
           clear H1
           have H' := Aside0.mk H
           clear H
           have p153 : 0 ≤ (x31_1 : Int) := of_decide_eq_true pD
           have q153 : x31_1 < (l0.length : Int) := of_decide_eq_true pD
           obtain ⟨ad153, e153, hx153_0⟩ := Kd.at_int HR0.out x31_1 p153 q153
           cases e153
           replace hx153_0 := (HB.out.cell (World.block_lt_of_cell? w _ hx153_0)).trans hx153_0
           replace p153 := eq_true p153
           replace q153 := eq_true q153
           obtain ⟨Ao19, co19, eo19⟩ := Kd.R_slice HO_9.out
           subst eo19
           have p154 : 0 ≤ (x31_1 : Int) := of_decide_eq_true pD
           have q154 : x31_1 < (t149.length : Int) := of_decide_eq_true pD
           obtain ⟨ad154, e154, hx154_0⟩ := Kd.at_bool (Kd.R_reads' HO_9.out).2.2 x31_1 p154 q154
           (try rw [← Nbq13.out] at hx154_0)
           cases e154
           replace p154 := eq_true p154
           replace q154 := eq_true q154
           go_wp2
           go_roundg k1
           case measure => have := HK1.out; omega
           case rel => exact ⟨(x11_1), (wrap64 (x31_1 + 1)), (pF), H', ⟨by have := HK1.out; omega⟩, ⟨pR HO_9.out⟩, ⟨pR HO_11.out⟩, ⟨pB HB.out⟩⟩
         ·replace c14 := Bool.eq_false_iff.mpr c14
          subst c14
          have H1 : (if x11_1.length < 17592186044416 then (shape_Drop.l0 k1 a2 t149 (x11_1 ++ [rd l0 x31_1]) l0 (l0.length : Int) (wrap64 (x31_1 + 1))) else (none)) = some (r1, r2) := by rw [if_neg (show ¬ (false = true) by decide)] at H; exact H
          clear H
          have H := H1
          clear H1
          by_cases c20 : x11_1.length < 17592186044416
          ·rw [if_pos c20] at H
           have LMc20 := Aside0.mk c20
           clear c20
           obtain ⟨y158, hy158⟩ : ∃ y_ : List Int, y_ = (x11_1 ++ [rd l0 x31_1]) := ⟨_, rfl⟩
           replace H : (shape_Drop.l0 k1 a2 t149 y158 l0 (l0.length : Int) (wrap64 (x31_1 + 1))) = some (r1, r2) := by first | (rw [hy158]; with_reducible exact H) | (have H2_ := (Option.bind_some _ _).symm.trans H; rw [hy158]; with_reducible exact H2_) | (have H2_ := (Option.bind_some _ _).symm.trans H; with_reducible exact H2_) | with_reducible exact H | (rw [hy158]; exact H) | exact H
           have Ny158 := Aside0.mk hy158
           clear hy158
           have H' := Aside0.mk H
           clear H
           have p153 : 0 ≤ (x31_1 : Int) := of_decide_eq_true pD
           have q153 : x31_1 < (l0.length : Int) := of_decide_eq_true pD
           obtain ⟨ad153, e153, hx153_0⟩ := Kd.at_int HR0.out x31_1 p153 q153
           cases e153
           replace hx153_0 := (HB.out.cell (World.block_lt_of_cell? w _ hx153_0)).trans hx153_0
           replace p153 := eq_true p153
           replace q153 := eq_true q153
           obtain ⟨Ao21, co21, eo21⟩ := Kd.R_slice HO_9.out
           subst eo21
           have p154 : 0 ≤ (x31_1 : Int) := of_decide_eq_true pD
           have q154 : x31_1 < (t149.length : Int) := of_decide_eq_true pD
           obtain ⟨ad154, e154, hx154_0⟩ := Kd.at_bool (Kd.R_reads' HO_9.out).2.2 x31_1 p154 q154
           (try rw [← Nbq13.out] at hx154_0)
           cases e154
           replace p154 := eq_true p154
           replace q154 := eq_true q154
           go_wp2_with (first | ((with_reducible refine gate_builtin (b := .append) (xs := #[.tmp 42, .tmp 44]) rfl ?_); at_builtin; refine Kd.R_append (Kd.int .i64) (w0 := w) w.heap.size rfl (.tmp 42) (.tmp 44) 22 3 (.int .i64 0) 8 rfl Try.underlying22 info3 rfl (by decide) (by omega) u11 x11_1 (rd l0 x31_1) [.int .i64 (rd l0 x31_1)] (fun _ => True) (fun _ => False) rfl rfl ?aP (fun _ hk => hk.elim) ?aF ?aO ?aB ?aS ?aL ?_; (case aP => exact rfl); (case aB => exact (pB HB.out)); (case aF => exact (fun _ _ => trivial)); (case aO => exact (pR HO_11.out)); (case aS => exact (below_size (pB HB.out))); (case aL => have := LMc20.out; omega); intro v159 w22 ho hb hg hat; rw [← Ny158.out] at ho; have n0_ := Aside0.mk (Kd.R_over' (pR HO_9.out) (Kd.R_typed (pR HO_11.out)) (by decide) hg); have n1_ := Aside0.mk (hb); have n2_ := Aside0.mk (ho); clear HO_9; clear HB; clear HO_11; have HO_9 := n0_; have HB := n1_; have HO160 := n2_; clear n0_ n1_ n2_; clear ho hb hg hat))
           go_roundg k1
           case measure => have := HK1.out; omega
           case rel => exact ⟨(y158), (wrap64 (x31_1 + 1)), (pF), H', ⟨by have := HK1.out; omega⟩, ⟨pR HO_9.out⟩, ⟨pR HO160.out⟩, ⟨pB HB.out⟩⟩
          ·rw [if_neg c20] at H
           exact absurd H (by simp)
        ·rw [if_neg c12] at H
         exact absurd H (by simp)
       ·rw [if_neg c11] at H
        exact absurd H (by simp)
      ·rw [if_neg c10] at H
       exact absurd H (by simp)
     ·rw [if_neg c9] at H
      have c9b0 : decide (x31_1 < (l0.length : Int)) = false := decide_eq_false c9
      clear c9
      simp only [Option.some.injEq, Prod.mk.injEq] at H
      obtain ⟨rfl, rfl⟩ := H
      go_wp2
      go_ret2
      exact ⟨_, pE, pR HO_11.out, pB HB.out⟩
  ·rw [if_neg c7] at H
   have c7b0 : (t150 == 0) = false := beq_eq_false_iff_ne.mpr c7
   have c7b1 : (t150 != 0) = true := bne_iff_ne.mpr c7
   simp only [Option.some.injEq, Prod.mk.injEq] at H
   obtain ⟨rfl, rfl⟩ := H
   go_enter Try.func20, Try.ntmps20
   go_wp2_with (first | ((with_reducible refine gate_callee (f := 26) rfl ?_); refine goesL_ (some 15) rfl rfl Try.func26 (by kernel_rfl) rfl #[.slice A0 l0.length c0] rfl pA ?_; (with_reducible refine (shape_Check.calls _ _ l0 t148 _ ?side1 ?side2 A4.out).mono ?_); (case side1 => exact pC HR0.out); (case side2 => exact HC0.out); rintro e w' ⟨rfl, ⟨nd, rfl⟩⟩; refine ⟨_, rfl, ?_⟩) | ((with_reducible refine gate_callee (f := 17) rfl ?_); refine goesL_ (some 23) rfl rfl Try.func17 (by kernel_rfl) rfl #[.int .i64 (l0.length : Int), .slice A1 l1.length c1] rfl pA ?_; (with_reducible refine (shape_Axes.calls k (l0.length : Int) _ _ l1 t149 t150 _ ?side1 ?side2 A6.out).mono ?_); (case side1 => exact pC HR1.out); (case side2 => exact HC1.out); rintro e w23 ⟨v151, rfl, ho0, hb⟩; refine ⟨_, rfl, ?_⟩; have n0_ := Aside0.mk (Kd.R_lower ho0 (below_size (pB HB.out))); have n1_ := Aside0.mk (below_step (pB HB.out) hb); clear HB; have HO152 := n0_; have HB := n1_; clear n0_ n1_; (try clear hb); (try clear hb2); (try clear hk); (try clear hi); (try clear ho0)))
   go_ret2
   exact ⟨_, pE, by first | exact Kd.R_nil _ _ _ _ _ | exact Kd.N_nil _ _ _ _ _ | exact Kd.V_nil _ _ _ _ _ | exact Kd.Q_nil _ _ _ _ _ | exact Kd.S_nil _ _ _ _ _, pB HB.out⟩
 ·rw [if_neg c5] at H
  have c5b0 : (t148 == 0) = false := beq_eq_false_iff_ne.mpr c5
  have c5b1 : (t148 != 0) = true := bne_iff_ne.mpr c5
  simp only [Option.some.injEq, Prod.mk.injEq] at H
  obtain ⟨rfl, rfl⟩ := H
  go_enter Try.func20, Try.ntmps20
  go_wp2_with (first | ((with_reducible refine gate_callee (f := 26) rfl ?_); refine goesL_ (some 15) rfl rfl Try.func26 (by kernel_rfl) rfl #[.slice A0 l0.length c0] rfl pA ?_; (with_reducible refine (shape_Check.calls _ _ l0 t148 _ ?side1 ?side2 A4.out).mono ?_); (case side1 => exact pC HR0.out); (case side2 => exact HC0.out); rintro e w' ⟨rfl, ⟨nd, rfl⟩⟩; refine ⟨_, rfl, ?_⟩))
  go_ret2
  exact ⟨_, pE, by first | exact Kd.R_nil _ _ _ _ _ | exact Kd.N_nil _ _ _ _ _ | exact Kd.V_nil _ _ _ _ _ | exact Kd.Q_nil _ _ _ _ _ | exact Kd.S_nil _ _ _ _ _, pB HB.out⟩

end Go.Proofs.Ytpoldofghcmfnaa.Q
