-- By wip/gprint.py (this session's), out of the kit's print.py.
import Derived.Test.YtjbpekblcecneaaQx0
import Derived.Test.YtjbpekblcecneaaQxfLowViewRight
import Derived.Test.YtjbpekblcecneaaQxfWalkAt
namespace Go.Proofs.Ytjbpekblcecneaa.Q
open Go.RowKit Go.Proofs.YtjbpekblcecneaaW.PrintWords Go.Proofs.YtjbpekblcecneaaW.PrintLast Go.Proofs.YtjbpekblcecneaaW.PrintMore
attribute [local go_sem] max2_int min2_int max_two min_two max_three min_three max_four min_four   -- for this text's walks alone
set_option linter.unusedVariables false
set_option linter.unusedSimpArgs false

/-! ### view_At: function 11 -/
def view_At.l0 : Nat → Int → List Int → Int → Int → Int → List Int → List Int → Option (Int × Bool)
 | 0, _, _, _, _, _, _, _ => none
 | k + 1, x8, x25, x26, x27, zh, zi, zd => if x27 < x26 then (if 0 ≤ x27 then (if x27 < (x25.length : Int) then (if (rd x25 x27) > 0 then (if x27 < (zd.length : Int) then (view_At.l0 k (wrap64 (x8 + (wrap64 ((rd x25 x27) * (rd zd x27))))) x25 x26 (wrap64 (x27 + 1)) zh zi zd) else (none)) else (view_At.l0 k x8 x25 x26 (wrap64 (x27 + 1)) zh zi zd)) else (none)) else (none)) else (some (x8, true))
def view_At.f (k : Nat) (a0_0 : Int) (l0_1 : List Int) (l0_2 : List Int) (a1 : Int) : Option (Int × Bool) := (view_right.f k a0_0 l0_1 l0_2).bind fun zl => (if zl = true then ((walk_At.f k l0_1 a1).bind fun bt121 => (if bt121.2 = true then (view_At.l0 k a0_0 bt121.1 (bt121.1.length : Int) 0 a0_0 l0_1 l0_2) else (some (0, false)))) else (some (0, false)))
set_option maxHeartbeats 8000000 in
set_option maxRecDepth 100000 in
theorem view_At.calls (k : Nat) (a0_0 : Int) (A0_1 : Option Addr) (c0_1 : Nat) (l0_1 : List Int) (A0_2 : Option Addr) (c0_2 : Nat) (l0_2 : List Int) (a1 : Int) (r1 : Int) (r2 : Bool) (w : World) (hr0_1 : Kd.C (Kd.int .i64) w A0_1 l0_1.length l0_1) (hc0_1 : l0_1.length ≤ c0_1) (hr0_2 : Kd.C (Kd.int .i64) w A0_2 l0_2.length l0_2) (hc0_2 : l0_2.length ≤ c0_2) (h : view_At.f k a0_0 l0_1 l0_2 a1 = some (r1, r2)) :
  Calls Try.prog 11 #[.agg #[.int .i64 a0_0, .slice A0_1 l0_1.length c0_1, .slice A0_2 l0_2.length c0_2], .int .i64 a1] w fun e w' => e = .returned (.tuple #[.int .i64 r1, .bool r2]) ∧ Below w.heap.size w w' := by
 have hu24 := Try.underlying24
 have ze := aM hr0_1
 have zf := aM hc0_1
 clear hr0_1 hc0_1
 have zj := aM hr0_2
 have zm := aM hc0_2
 clear hr0_2 hc0_2
 have HB := aM (Below.refl w.heap.size w)
 have H : ((view_right.f k a0_0 l0_1 l0_2).bind fun zl => (if zl = true then ((walk_At.f k l0_1 a1).bind fun bt121 => (if bt121.2 = true then (view_At.l0 k a0_0 bt121.1 (bt121.1.length : Int) 0 a0_0 l0_1 l0_2) else (some (0, false)))) else (some (0, false)))) = some (r1, r2) := h
 clear h
 replace H := Option.bind_eq_some_iff.mp H
 obtain ⟨zl, A30, H⟩ := H
 try dsimp only at H
 have A3 := aM A30
 clear A30
 by_cases c4 : zl = true
 rotate_left
 ·replace c4 := Bool.eq_false_iff.mpr c4
  subst c4
  rw [if_neg (show ¬ (false = true) by decide)] at H
  simp only [Option.some.injEq, Prod.mk.injEq] at H
  obtain ⟨rfl, rfl⟩ := H
  go_enter Try.func11, Try.ntmps11
  go_wp2_with (first | ((with_reducible refine gate_dst (N := 2) rfl ?_); refine box_event ?hg (N := 2) ?hd (cs := #[.int .i64 a0_0, .slice A0_1 l0_1.length c0_1, .slice A0_2 l0_2.length c0_2]) (t := 24) ?hr ?_; (case hd => rfl); (case hg => rfl); (case hr => first | (go_simp; done) | (go_simp; rfl)); intro zn hg w25 hbox hb; have za := aM (hbox); have zg := gE (w := w) hg (qB HB); have zb := zg; replace HB := bS (qB HB) hb; clear hb hbox hg; obtain ⟨hcz26_0, hcz26_1, hcz26_2, hfz26_0, hfz26_1, hfz26_2⟩ := blk3 za.out) | ((with_reducible refine gate_callee (f := 39) rfl ?_); refine goesL_ (some 12) rfl rfl Try.func39 (by kernel_rfl) rfl #[.agg #[.int .i64 a0_0, .slice A0_1 l0_1.length c0_1, .slice A0_2 l0_2.length c0_2]] rfl pA ?_; (with_reducible refine (view_right.calls k a0_0 _ _ l0_1 _ _ l0_2 false _ ?s1 ?s2 ?s3 ?s4 A3.out).mono ?_); (case s1 => exact sC ze HB); (case s2 => exact zf.out); (case s3 => exact sC zj HB); (case s4 => exact zm.out); rintro e w27 ⟨rfl, hb⟩; refine ⟨_, rfl, ?_⟩; replace za := bK za hb; replace HB := bS (qB1 HB zb) hb; (try clear hb); (try clear hk); (try clear hi)))
  go_ret2
  exact ⟨pE, qB1 HB zb⟩

 subst c4
 rw [if_pos rfl] at H
 replace H := Option.bind_eq_some_iff.mp H
 obtain ⟨⟨zc, t122⟩, A50, H⟩ := H
 try dsimp only at H
 have A5 := aM A50
 clear A50
 by_cases c6 : t122 = true
 rotate_left
 ·replace c6 := Bool.eq_false_iff.mpr c6
  subst c6
  rw [if_neg (show ¬ (false = true) by decide)] at H
  simp only [Option.some.injEq, Prod.mk.injEq] at H
  obtain ⟨rfl, rfl⟩ := H
  go_enter Try.func11, Try.ntmps11
  go_wp2_with (first | ((with_reducible refine gate_dst (N := 2) rfl ?_); refine box_event ?hg (N := 2) ?hd (cs := #[.int .i64 a0_0, .slice A0_1 l0_1.length c0_1, .slice A0_2 l0_2.length c0_2]) (t := 24) ?hr ?_; (case hd => rfl); (case hg => rfl); (case hr => first | (go_simp; done) | (go_simp; rfl)); intro zn hg w20 hbox hb; have za := aM (hbox); have zg := gE (w := w) hg (qB HB); have zb := zg; replace HB := bS (qB HB) hb; clear hb hbox hg; obtain ⟨hcz21_0, hcz21_1, hcz21_2, hfz21_0, hfz21_1, hfz21_2⟩ := blk3 za.out) | ((with_reducible refine gate_callee (f := 39) rfl ?_); refine goesL_ (some 12) rfl rfl Try.func39 (by kernel_rfl) rfl #[.agg #[.int .i64 a0_0, .slice A0_1 l0_1.length c0_1, .slice A0_2 l0_2.length c0_2]] rfl pA ?_; (with_reducible refine (view_right.calls k a0_0 _ _ l0_1 _ _ l0_2 true _ ?s1 ?s2 ?s3 ?s4 A3.out).mono ?_); (case s1 => exact sC ze HB); (case s2 => exact zf.out); (case s3 => exact sC zj HB); (case s4 => exact zm.out); rintro e w22 ⟨rfl, hb⟩; refine ⟨_, rfl, ?_⟩; replace za := bK za hb; replace HB := bS (qB1 HB zb) hb; (try clear hb); (try clear hk); (try clear hi); obtain ⟨hcz23_0, hcz23_1, hcz23_2, hfz23_0, hfz23_1, hfz23_2⟩ := blk3 za.out) | ((with_reducible refine gate_callee (f := 40) rfl ?_); refine goesL_ (some 18) rfl rfl Try.func40 (by kernel_rfl) rfl #[.slice A0_1 l0_1.length c0_1, .int .i64 a1] rfl pA ?_; (with_reducible refine (walk_At.calls k _ _ l0_1 a1 zc false _ ?s1 ?s2 A5.out).mono ?_); (case s1 => exact sC ze HB); (case s2 => exact zf.out); rintro e w24 ⟨v123, rfl, ho0, hb⟩; refine ⟨_, rfl, ?_⟩; have zo := aM (Kd.R_lower ho0 (below_size (qB1 HB zb))); replace za := bK za hb; replace HB := bS (qB1 HB zb) hb; (try clear hb); (try clear hk); (try clear hi); (try clear ho0)))
  go_ret2
  exact ⟨pE, qB1 HB zb⟩
 subst c6
 rw [if_pos rfl] at H
 have H' := aM H
 clear H
 go_enter Try.func11, Try.ntmps11
 go_wp2_with (first | ((with_reducible refine gate_dst (N := 2) rfl ?_); refine box_event ?hg (N := 2) ?hd (cs := #[.int .i64 a0_0, .slice A0_1 l0_1.length c0_1, .slice A0_2 l0_2.length c0_2]) (t := 24) ?hr ?_; (case hd => rfl); (case hg => rfl); (case hr => first | (go_simp; done) | (go_simp; rfl)); intro zn hg w7 hbox hb; have za := aM (hbox); have zg := gE (w := w) hg (qB HB); have zb := zg; replace HB := bS (qB HB) hb; clear hb hbox hg; obtain ⟨hcz8_0, hcz8_1, hcz8_2, hfz8_0, hfz8_1, hfz8_2⟩ := blk3 za.out) | ((with_reducible refine gate_callee (f := 39) rfl ?_); refine goesL_ (some 12) rfl rfl Try.func39 (by kernel_rfl) rfl #[.agg #[.int .i64 a0_0, .slice A0_1 l0_1.length c0_1, .slice A0_2 l0_2.length c0_2]] rfl pA ?_; (with_reducible refine (view_right.calls k a0_0 _ _ l0_1 _ _ l0_2 true _ ?s1 ?s2 ?s3 ?s4 A3.out).mono ?_); (case s1 => exact sC ze HB); (case s2 => exact zf.out); (case s3 => exact sC zj HB); (case s4 => exact zm.out); rintro e w9 ⟨rfl, hb⟩; refine ⟨_, rfl, ?_⟩; replace za := bK za hb; replace HB := bS (qB1 HB zb) hb; (try clear hb); (try clear hk); (try clear hi); obtain ⟨hcz10_0, hcz10_1, hcz10_2, hfz10_0, hfz10_1, hfz10_2⟩ := blk3 za.out) | ((with_reducible refine gate_callee (f := 40) rfl ?_); refine goesL_ (some 18) rfl rfl Try.func40 (by kernel_rfl) rfl #[.slice A0_1 l0_1.length c0_1, .int .i64 a1] rfl pA ?_; (with_reducible refine (walk_At.calls k _ _ l0_1 a1 zc true _ ?s1 ?s2 A5.out).mono ?_); (case s1 => exact sC ze HB); (case s2 => exact zf.out); rintro e w11 ⟨v123, rfl, ho0, hb⟩; refine ⟨_, rfl, ?_⟩; have zo := aM (Kd.R_lower ho0 (below_size (qB1 HB zb))); replace za := bK za hb; replace HB := bS (qB1 HB zb) hb; (try clear hb); (try clear hk); (try clear hi); (try clear ho0); obtain ⟨hcz12_0, hcz12_1, hcz12_2, hfz12_0, hfz12_1, hfz12_2⟩ := blk3 za.out; obtain ⟨Ao13, co13, eo13⟩ := Kd.R_slice zo.out; subst eo13))
 go_loopg [8, 27] k (fun kq v8 v27 w' => ∃ (x8_1 : Int) (x27_1 : Int), v8 = .int .i64 x8_1 ∧ v27 = .int .i64 x27_1 ∧ Aside0 (view_At.l0 kq x8_1 zc (zc.length : Int) x27_1 a0_0 l0_1 l0_2 = some (r1, r2)) ∧ Aside0 (kq ≤ k) ∧ Aside0 (Kd.R (Kd.int .i64) 3 w' w.heap.size (fun _ => True) (.slice Ao13 zc.length co13) zc) ∧ Aside0 (w'.heap[zn]? = some (.cells #[.int .i64 a0_0, (.slice A0_1 l0_1.length c0_1), (.slice A0_2 l0_2.length c0_2)] 24 (0, 0))) ∧ Aside0 (Below w.heap.size w w'))
 case atStart => exact ⟨(a0_0), (0), (pF), (pF), H', ⟨Nat.le_refl _⟩, ⟨pR zo.out⟩, ⟨pK za.out⟩, ⟨qB1 HB zb⟩⟩
 case round =>
  clear H'
  try clear c4
  try clear c6
  try clear hcz10_0 hcz10_1 hcz10_2 hcz12_0 hcz12_1 hcz12_2 hcz8_0 hcz8_1 hcz8_2 hfz10_0 hfz10_1 hfz10_2 hfz12_0 hfz12_1 hfz12_2 hfz8_0 hfz8_1 hfz8_2
  obtain ⟨x8_1, x27_1, rfl, rfl, HA, HK1, zk, za, HB⟩ := hrel
  cases gk with
  | zero => exact absurd HA.out (by simp [view_At.l0])
  | succ k1 =>
   have H := HA.out
   clear HA
   simp only [view_At.l0] at H
   by_cases c14 : x27_1 < (zc.length : Int)
   rotate_left
   ·rw [if_neg c14] at H
    have c14b0 : decide (x27_1 < (zc.length : Int)) = false := decide_eq_false c14
    clear c14
    simp only [Option.some.injEq, Prod.mk.injEq] at H
    obtain ⟨rfl, rfl⟩ := H
    go_wp2
    go_ret2
    exact ⟨pE, qB1 HB zb⟩
   rw [if_pos c14] at H
   have c14b0 : decide (x27_1 < (zc.length : Int)) = true := decide_eq_true c14
   clear c14
   by_cases c15 : 0 ≤ x27_1
   rotate_left
   ·rw [if_neg c15] at H
    exact absurd H (by simp)
   rw [if_pos c15] at H
   have c15b0 : decide (0 ≤ x27_1) = true := decide_eq_true c15
   clear c15
   by_cases c16 : x27_1 < (zc.length : Int)
   rotate_left
   ·rw [if_neg c16] at H
    exact absurd H (by simp)
   rw [if_pos c16] at H
   have c16b0 : decide (x27_1 < (zc.length : Int)) = true := decide_eq_true c16
   clear c16
   by_cases c17 : (rd zc x27_1) > 0
   rotate_left
   ·rw [if_neg c17] at H
    have c17b0 : decide (0 < (rd zc x27_1)) = false := decide_eq_false c17
    clear c17
    have H' := aM H
    clear H
    have p125 : 0 ≤ (x27_1 : Int) := of_decide_eq_true pD
    have q125 : x27_1 < (zc.length : Int) := of_decide_eq_true pD
    obtain ⟨ad125, e125, hx125_0⟩ := Kd.at_int (Kd.R_reads' zk.out).2.2 x27_1 p125 q125
    cases e125
    replace p125 := eq_true p125
    replace q125 := eq_true q125
    go_wp2
    go_roundg k1
    case measure => have := HK1.out; omega
    case rel => exact ⟨(x8_1), (wrap64 (x27_1 + 1)), (pF), (pF), H', ⟨by have := HK1.out; omega⟩, ⟨pR zk.out⟩, ⟨pK za.out⟩, ⟨qB1 HB zb⟩⟩
   rw [if_pos c17] at H
   have c17b0 : decide (0 < (rd zc x27_1)) = true := decide_eq_true c17
   clear c17
   by_cases c18 : x27_1 < (l0_2.length : Int)
   rotate_left
   ·rw [if_neg c18] at H
    exact absurd H (by simp)
   rw [if_pos c18] at H
   have c18b0 : decide (x27_1 < (l0_2.length : Int)) = true := decide_eq_true c18
   clear c18
   have H' := aM H
   clear H
   have p125 : 0 ≤ (x27_1 : Int) := of_decide_eq_true pD
   have q125 : x27_1 < (zc.length : Int) := of_decide_eq_true pD
   obtain ⟨ad125, e125, hx125_0⟩ := Kd.at_int (Kd.R_reads' zk.out).2.2 x27_1 p125 q125
   cases e125
   replace p125 := eq_true p125
   replace q125 := eq_true q125
   obtain ⟨hcz19_0, hcz19_1, hcz19_2, hfz19_0, hfz19_1, hfz19_2⟩ := blk3 za.out
   have p126 : 0 ≤ (x27_1 : Int) := of_decide_eq_true pD
   have q126 : x27_1 < (l0_2.length : Int) := of_decide_eq_true pD
   obtain ⟨ad126, e126, hx126_0⟩ := Kd.at_int zj.out x27_1 p126 q126
   cases e126
   replace hx126_0 := (HB.out.cell (World.block_lt_of_cell? w _ hx126_0)).trans hx126_0
   replace p126 := eq_true p126
   replace q126 := eq_true q126
   go_wp2
   go_roundg k1
   case measure => have := HK1.out; omega
   case rel => exact ⟨(wrap64 (x8_1 + (wrap64 ((rd zc x27_1) * (rd l0_2 x27_1))))), (wrap64 (x27_1 + 1)), (pF), (pF), H', ⟨by have := HK1.out; omega⟩, ⟨pR zk.out⟩, ⟨pK za.out⟩, ⟨qB1 HB zb⟩⟩
end Go.Proofs.Ytjbpekblcecneaa.Q
