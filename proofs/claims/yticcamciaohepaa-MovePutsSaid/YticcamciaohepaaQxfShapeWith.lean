-- By wip/gprint.py (this session's), out of the kit's print.py.
import Derived.Test.YticcamciaohepaaQx0
import Derived.Test.YticcamciaohepaaQxfShapeCheck
import Derived.Test.YticcamciaohepaaQxfSlicesCloneIntInt
namespace Go.Proofs.Yticcamciaohepaa.Q
open Go.RowKit Go.Proofs.YticcamciaohepaaW.PrintWords Go.Proofs.YticcamciaohepaaW.PrintLast Go.Proofs.YticcamciaohepaaW.PrintMore
attribute [local go_sem] max2_int min2_int max_two min_two max_three min_three max_four min_four   -- for this text's walks alone
set_option linter.unusedVariables false
set_option linter.unusedSimpArgs false

/-! ### shape_With: function 36 -/
def shape_With.j0 : Nat → List Int → Int → Int → Bool → Option (List Int × Int)
 | 0, _, _, _, _ => none
 | k + 1, x0, x1, x2, x23 => if x23 = true then (some (([] : List Int), 10)) else ((slices_Clone_int_int.f x0).bind fun zb => (if 0 ≤ x1 then (if x1 < (zb.length : Int) then ((some (zb.set (x1 : Int).toNat x2 : List Int)).bind fun zc => ((shape_Check.f zc).bind fun zd => (if zd = 0 then (some (zc, 0)) else (some (([] : List Int), zd))))) else (none)) else (none)))
def shape_With.f (k : Nat) (l0 : List Int) (a1 : Int) (a2 : Int) : Option (List Int × Int) := (shape_Check.f l0).bind fun ze => (if ze = 0 then (if a1 < 0 then (shape_With.j0 k l0 a1 a2 true) else (shape_With.j0 k l0 a1 a2 (decide (a1 ≥ (l0.length : Int))))) else (some (([] : List Int), ze)))
set_option maxHeartbeats 8000000 in
set_option maxRecDepth 100000 in
theorem shape_With.calls (k : Nat) (A0 : Option Addr) (c0 : Nat) (l0 : List Int) (a1 : Int) (a2 : Int) (r1 : List Int) (r2 : Int) (w : World) (hr0 : Kd.C (Kd.int .i64) w A0 l0.length l0) (hc0 : l0.length ≤ c0) (h : shape_With.f k l0 a1 a2 = some (r1, r2)) :
  Calls Try.prog 36 #[.slice A0 l0.length c0, .int .i64 a1, .int .i64 a2] w fun e w' => ∃ v0_ : Value, e = .returned (.tuple #[v0_, .int .i64 r2]) ∧ Kd.R (Kd.int .i64) 3 w' w.heap.size (fun _ => True) v0_ r1 ∧ Below w.heap.size w w' := by
 have HR0 := aM hr0
 have HC0 := aM hc0
 clear hr0 hc0
 have HB := aM (Below.refl w.heap.size w)
 have H : ((shape_Check.f l0).bind fun ze => (if ze = 0 then (if a1 < 0 then (shape_With.j0 k l0 a1 a2 true) else (shape_With.j0 k l0 a1 a2 (decide (a1 ≥ (l0.length : Int))))) else (some (([] : List Int), ze)))) = some (r1, r2) := h
 clear h
 replace H := Option.bind_eq_some_iff.mp H
 obtain ⟨ze, A40, H⟩ := H
 try dsimp only at H
 have A4 := aM A40
 clear A40
 by_cases c5 : ze = 0
 rotate_left
 ·rw [if_neg c5] at H
  have zl : (ze == 0) = false := beq_eq_false_iff_ne.mpr c5
  have zm : (ze != 0) = true := bne_iff_ne.mpr c5
  simp only [Option.some.injEq, Prod.mk.injEq] at H
  obtain ⟨rfl, rfl⟩ := H
  go_enter Try.func36, Try.ntmps36
  go_wp2_with (first | ((with_reducible refine gate_callee (f := 22) rfl ?_); refine goesL_ (some 12) rfl rfl Try.func22 (by kernel_rfl) rfl #[.slice A0 l0.length c0] rfl pA ?_; (with_reducible refine (shape_Check.calls _ _ l0 ze _ ?s1 ?s2 A4.out).mono ?_); (case s1 => exact pC HR0.out); (case s2 => exact HC0.out); rintro e w' ⟨rfl, ⟨nd, rfl⟩⟩; refine ⟨_, rfl, ?_⟩))
  go_ret2
  exact ⟨_, pE, pN, qB HB⟩

 rw [if_pos c5] at H
 have zl : (ze == 0) = true := beq_iff_eq.mpr c5
 have zm : (ze != 0) = false := bne_eq_false_iff_eq.mpr c5
 clear c5
 have HC6 := aM H
 clear H
 go_enter Try.func36, Try.ntmps36
 go_upto_region 4 with (first | ((with_reducible refine gate_callee (f := 22) rfl ?_); refine goesL_ (some 12) rfl rfl Try.func22 (by kernel_rfl) rfl #[.slice A0 l0.length c0] rfl pA ?_; (with_reducible refine (shape_Check.calls _ _ l0 ze _ ?s1 ?s2 A4.out).mono ?_); (case s1 => exact pC HR0.out); (case s2 => exact HC0.out); rintro e w' ⟨rfl, ⟨nd, rfl⟩⟩; refine ⟨_, rfl, ?_⟩))
 (try simp only [Act.put, sP])
 go_cut [23] (fun v23 wc => ∃ (kq : Nat) (x23_5 : Bool), v23 = .bool x23_5 ∧ Aside0 (shape_With.j0 kq l0 a1 a2 x23_5 = some (r1, r2)) ∧ Aside0 (kq ≤ k) ∧ Aside0 (Below w.heap.size w wc))
 case first =>
  have H := HC6.out
  clear HC6
  by_cases c7 : a1 < 0
  ·rw [if_pos c7] at H
   have zf : decide (a1 < 0) = true := decide_eq_true c7
   clear c7
   (first | rw [zf] | (simp only [i64_w, i32_w]; rw [zf]) | skip)
   have H' := aM H
   clear H
   go_wp2
   go_meet
   case rel => exact ⟨_, (true), (pF), H', ⟨by first | omega | exact Nat.le_refl _⟩, ⟨qB HB⟩⟩
  rw [if_neg c7] at H
  have zf : decide (a1 < 0) = false := decide_eq_false c7
  clear c7
  (first | rw [zf] | (simp only [i64_w, i32_w]; rw [zf]) | skip)
  have H' := aM H
  clear H
  go_wp2
  go_meet
  case rel => exact ⟨_, (decide (a1 ≥ (l0.length : Int))), (pF), H', ⟨by first | omega | exact Nat.le_refl _⟩, ⟨qB HB⟩⟩
 case rest =>
  clear HC6
  try clear zl
  try clear zm
  obtain ⟨kq, x23_5, rfl, HA, HJ5, HB⟩ := hcut
  cases kq with
  | zero => exact absurd HA.out (by simp [shape_With.j0])
  | succ kj5 =>
   have H := HA.out
   clear HA
   simp only [shape_With.j0] at H
   by_cases c8 : x23_5 = true
   ·subst c8
    rw [if_pos rfl] at H
    simp only [Option.some.injEq, Prod.mk.injEq] at H
    obtain ⟨rfl, rfl⟩ := H
    go_wp2
    go_ret2
    exact ⟨_, pE, pN, qB HB⟩
   replace c8 := Bool.eq_false_iff.mpr c8
   subst c8
   rw [if_neg (show ¬ (false = true) by decide)] at H
   replace H := Option.bind_eq_some_iff.mp H
   obtain ⟨zb, A90, H⟩ := H
   try dsimp only at H
   have A9 := aM A90
   clear A90
   by_cases c10 : 0 ≤ a1
   rotate_left
   ·rw [if_neg c10] at H
    exact absurd H (by simp)
   rw [if_pos c10] at H
   have c10b0 : decide (0 ≤ a1) = true := decide_eq_true c10
   clear c10
   by_cases c11 : a1 < (zb.length : Int)
   rotate_left
   ·rw [if_neg c11] at H
    exact absurd H (by simp)
   rw [if_pos c11] at H
   have c11b0 : decide (a1 < (zb.length : Int)) = true := decide_eq_true c11
   clear c11
   obtain ⟨zc, zg⟩ : ∃ y_ : List Int, y_ = (zb.set (a1 : Int).toNat a2) := ⟨_, rfl⟩
   replace H : ((shape_Check.f zc).bind fun zd => (if zd = 0 then (some (zc, 0)) else (some (([] : List Int), zd)))) = some (r1, r2) := pH zg H
   have zk := aM zg
   clear zg
   replace H := Option.bind_eq_some_iff.mp H
   obtain ⟨zd, zn, H⟩ := H
   try dsimp only at H
   have A13 := aM zn
   clear zn
   by_cases c14 : zd = 0
   rotate_left
   ·rw [if_neg c14] at H
    have c14b0 : (zd == 0) = false := beq_eq_false_iff_ne.mpr c14
    have c14b1 : (zd != 0) = true := bne_iff_ne.mpr c14
    simp only [Option.some.injEq, Prod.mk.injEq] at H
    obtain ⟨rfl, rfl⟩ := H
    go_wp2_with (first | ((with_reducible refine gate_callee (f := 19) rfl ?_); refine goesL_ (some 25) rfl rfl Try.func19 (by kernel_rfl) rfl #[.slice A0 l0.length c0] rfl pA ?_; (with_reducible refine (slices_Clone_int_int.calls _ _ l0 zb _ ?s1 ?s2 A9.out).mono ?_); (case s1 => exact sC HR0 HB); (case s2 => exact HC0.out); rintro e w18 ⟨v105, rfl, ho0, hb⟩; refine ⟨_, rfl, ?_⟩; have za := aM (Kd.R_lower ho0 (below_size (qB HB))); replace HB := bS (qB HB) hb; (try clear hb); (try clear hk); (try clear hi); (try clear ho0); have p12 : 0 ≤ (a1 : Int) := of_decide_eq_true pD; have q12 : (a1 : Int) < ((zb.length : Int) : Int) := of_decide_eq_true pD; obtain ⟨go12, zh, zi, zj, gl12, cl12, HG12⟩ := Kd.R_form za.out (by omega); (first | cases zi | (injection zi with ea_ en_ ec_; (first | subst ea_ | (injection ea_ with ea_; subst ea_)); subst ec_; clear en_)); have GB12 := aM zj; have GG12 := aM HG12; clear zj gl12 HG12; obtain ⟨hx12_0, hf12_0⟩ := Kd.R_celln 0 za.out (a1 : Int) p12 q12; replace p12 := eq_true p12; replace q12 := eq_true q12; obtain ⟨hy19_, hz19_⟩ := Kd.R_celln 0 za.out (a1 : Int) (of_decide_eq_true pD) (of_decide_eq_true pD); have HP19 := Kd.R_putg za.out (a1 : Int) a2) | ((with_reducible refine gate_store (t := 3) (p := 29) rfl ?_); refine store_event (t := 3) (p := 29) (v := ?vo_w20) (w1 := (w18.setCell ⟨go12, (a1 : Int).toNat, none⟩ (.int .i64 a2))) ?hg ?ho ?hn ?hr ?_; (case ho => rfl); (case hg => rfl); (case hn => rfl); (case hr => first | (go_simp; done) | (go_simp; rfl)); intro w20 hw; have hg : w18.grownBy w20 (some go12) := (by rw [hw]; exact HP19.2); have hp_ : Kd.R (Kd.int .i64) 3 w20 w.heap.size (fun _ => True) (.slice (some ⟨go12, 0, none⟩) zb.length zh) zc := (by rw [hw, zk.out]; exact HP19.1); clear HP19; replace za := aM (hp_); replace HB := aM ((by rw [hw]; exact below_set (HB.out) GB12.out : Below w.heap.size w w20)); clear hg hw hp_) | ((with_reducible refine gate_callee (f := 22) rfl ?_); refine goesL_ (some 31) rfl rfl Try.func22 (by kernel_rfl) rfl #[.slice (some ⟨go12, 0, none⟩) zc.length zh] rfl (by (try simp only [List.map_toArray, List.map_cons, List.map_nil]); first | done | (rw [show zc.length = zb.length from (Kd.R_reads' za.out).1.symm] <;> rfl) | rfl | (simp only [List.length_drop, List.length_take]; rfl)) ?_; (with_reducible refine (shape_Check.calls _ _ zc zd _ ?s1 ?s2 A13.out).mono ?_); (case s1 => exact sR za); (case s2 => rw [show zc.length = zb.length from (Kd.R_reads' za.out).1.symm]; exact sL za); rintro e w' ⟨rfl, ⟨nd, rfl⟩⟩; refine ⟨_, rfl, ?_⟩))
    go_ret2
    exact ⟨_, pE, pN, qB HB⟩
   rw [if_pos c14] at H
   have c14b0 : (zd == 0) = true := beq_iff_eq.mpr c14
   have c14b1 : (zd != 0) = false := bne_eq_false_iff_eq.mpr c14
   clear c14
   simp only [Option.some.injEq, Prod.mk.injEq] at H
   obtain ⟨rfl, rfl⟩ := H
   go_wp2_with (first | ((with_reducible refine gate_callee (f := 19) rfl ?_); refine goesL_ (some 25) rfl rfl Try.func19 (by kernel_rfl) rfl #[.slice A0 l0.length c0] rfl pA ?_; (with_reducible refine (slices_Clone_int_int.calls _ _ l0 zb _ ?s1 ?s2 A9.out).mono ?_); (case s1 => exact sC HR0 HB); (case s2 => exact HC0.out); rintro e w15 ⟨v105, rfl, ho0, hb⟩; refine ⟨_, rfl, ?_⟩; have za := aM (Kd.R_lower ho0 (below_size (qB HB))); replace HB := bS (qB HB) hb; (try clear hb); (try clear hk); (try clear hi); (try clear ho0); have p12 : 0 ≤ (a1 : Int) := of_decide_eq_true pD; have q12 : (a1 : Int) < ((zb.length : Int) : Int) := of_decide_eq_true pD; obtain ⟨go12, zh, zi, zj, gl12, cl12, HG12⟩ := Kd.R_form za.out (by omega); (first | cases zi | (injection zi with ea_ en_ ec_; (first | subst ea_ | (injection ea_ with ea_; subst ea_)); subst ec_; clear en_)); have GB12 := aM zj; have GG12 := aM HG12; clear zj gl12 HG12; obtain ⟨hx12_0, hf12_0⟩ := Kd.R_celln 0 za.out (a1 : Int) p12 q12; replace p12 := eq_true p12; replace q12 := eq_true q12; obtain ⟨hy16_, hz16_⟩ := Kd.R_celln 0 za.out (a1 : Int) (of_decide_eq_true pD) (of_decide_eq_true pD); have HP16 := Kd.R_putg za.out (a1 : Int) a2) | ((with_reducible refine gate_store (t := 3) (p := 29) rfl ?_); refine store_event (t := 3) (p := 29) (v := ?vo_w17) (w1 := (w15.setCell ⟨go12, (a1 : Int).toNat, none⟩ (.int .i64 a2))) ?hg ?ho ?hn ?hr ?_; (case ho => rfl); (case hg => rfl); (case hn => rfl); (case hr => first | (go_simp; done) | (go_simp; rfl)); intro w17 hw; have hg : w15.grownBy w17 (some go12) := (by rw [hw]; exact HP16.2); have hp_ : Kd.R (Kd.int .i64) 3 w17 w.heap.size (fun _ => True) (.slice (some ⟨go12, 0, none⟩) zb.length zh) zc := (by rw [hw, zk.out]; exact HP16.1); clear HP16; replace za := aM (hp_); replace HB := aM ((by rw [hw]; exact below_set (HB.out) GB12.out : Below w.heap.size w w17)); clear hg hw hp_) | ((with_reducible refine gate_callee (f := 22) rfl ?_); refine goesL_ (some 31) rfl rfl Try.func22 (by kernel_rfl) rfl #[.slice (some ⟨go12, 0, none⟩) zc.length zh] rfl (by (try simp only [List.map_toArray, List.map_cons, List.map_nil]); first | done | (rw [show zc.length = zb.length from (Kd.R_reads' za.out).1.symm] <;> rfl) | rfl | (simp only [List.length_drop, List.length_take]; rfl)) ?_; (with_reducible refine (shape_Check.calls _ _ zc zd _ ?s1 ?s2 A13.out).mono ?_); (case s1 => exact sR za); (case s2 => rw [show zc.length = zb.length from (Kd.R_reads' za.out).1.symm]; exact sL za); rintro e w' ⟨rfl, ⟨nd, rfl⟩⟩; refine ⟨_, rfl, ?_⟩))
   go_ret2
   exact ⟨_, pE, pR za.out, qB HB⟩
end Go.Proofs.Yticcamciaohepaa.Q
