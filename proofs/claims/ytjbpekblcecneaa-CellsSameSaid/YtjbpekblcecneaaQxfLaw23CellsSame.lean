-- By wip/gprint.py (this session's), out of the kit's print.py.
import Derived.Test.YtjbpekblcecneaaQx0
import Derived.Test.YtjbpekblcecneaaQxfCellsOnce
import Derived.Test.YtjbpekblcecneaaQxfCellsSpan
import Derived.Test.YtjbpekblcecneaaQxfCellsTimes
import Derived.Test.YtjbpekblcecneaaQxfLaw22Many
import Derived.Test.YtjbpekblcecneaaQxfLaw23SameT
import Derived.Test.YtjbpekblcecneaaQxfRef22Right
import Derived.Test.YtjbpekblcecneaaQxfViewExpand
import Derived.Test.YtjbpekblcecneaaQxfViewFlip
import Derived.Test.YtjbpekblcecneaaQxfViewPermute
namespace Go.Proofs.Ytjbpekblcecneaa.Q
open Go.RowKit Go.Proofs.YtjbpekblcecneaaW.PrintWords Go.Proofs.YtjbpekblcecneaaW.PrintLast Go.Proofs.YtjbpekblcecneaaW.PrintMore
attribute [local go_sem] max2_int min2_int max_two min_two max_three min_three max_four min_four   -- for this text's walks alone
set_option linter.unusedVariables false
set_option linter.unusedSimpArgs false

/-! ### gradinelaw23_CellsSame: function 7 -/
mutual
def gradinelaw23_CellsSame.j0 : Nat → List Int → Int → Bool → Int → List Int → List Int → Option (Bool)
 | 0, _, _, _, _, _, _ => none
 | k + 1, x1, x2, x33, zar, zam, zas => if x33 = true then ((gradinelaw23_same.f).bind fun zej => (some zej)) else ((cells_Span.f k zar zam zas).bind fun bt838 => ((view_Permute.f k zar zam zas x1).bind fun bt841 => ((view_Flip.f k zar zam zas x2).bind fun bt850 => (if bt841.2.2.2 = 0 then ((cells_Span.f k bt841.1 bt841.2.1 bt841.2.2.1).bind fun bt859 => (if bt838.1 = bt859.1 then (if bt838.2.1 = bt859.2.1 then (if (bt838.2.2 != bt859.2.2) = true then (some false) else ((cells_Once.f k bt841.1 bt841.2.1 bt841.2.2.1).bind fun zcj => ((cells_Once.f k zar zam zas).bind fun zck => (if (zcj != zck) = true then (some false) else ((cells_Times.f k bt841.1 bt841.2.1 bt841.2.2.1 x2).bind fun zcv => ((cells_Times.f k zar zam zas x2).bind fun zcw => (if zcv = zcw then (gradinelaw23_CellsSame.j1 k bt838.1 bt838.2.1 bt838.2.2 bt850.2.2.2 zar zam zas bt850.1 bt850.2.1 bt850.2.2.1) else (some false)))))))) else (some false)) else (some false))) else (gradinelaw23_CellsSame.j1 k bt838.1 bt838.2.1 bt838.2.2 bt850.2.2.2 zar zam zas bt850.1 bt850.2.1 bt850.2.2.1)))))
def gradinelaw23_CellsSame.j1 : Nat → Int → Int → Bool → Int → Int → List Int → List Int → Int → List Int → List Int → Option (Bool)
 | 0, _, _, _, _, _, _, _, _, _, _ => none
 | k + 1, x7, x8, x9, x13, zar, zam, zas, zcq, zcr, zcs => if x13 = 0 then ((cells_Span.f k zcq zcr zcs).bind fun bt866 => (if x7 = bt866.1 then (if x8 = bt866.2.1 then (if (x9 != bt866.2.2) = true then (gradinelaw23_CellsSame.j2 k x9 true zar zam zas) else ((cells_Once.f k zcq zcr zcs).bind fun zcf => ((cells_Once.f k zar zam zas).bind fun zcg => (if (zcf != zcg) = true then (gradinelaw23_CellsSame.j2 k x9 true zar zam zas) else ((cells_Times.f k zcq zcr zcs x7).bind fun zdo => ((cells_Times.f k zar zam zas x7).bind fun zdp => (gradinelaw23_CellsSame.j2 k x9 (zdo != zdp) zar zam zas))))))) else (gradinelaw23_CellsSame.j2 k x9 true zar zam zas)) else (gradinelaw23_CellsSame.j2 k x9 true zar zam zas))) else ((some (([2] : List Int) : List Int)).bind fun zbv => (if zbv.length + zam.length < 17592186044416 then ((view_Expand.f k zar zam zas (zbv ++ zam)).bind fun bt897 => (if x9 = true then (if bt897.2.2.2 = 0 then ((cells_Once.f k bt897.1 bt897.2.1 bt897.2.2.1).bind fun zc1 => (if zc1 = true then (some false) else ((gradinelaw23_same.f).bind fun zc2 => (some zc2)))) else ((gradinelaw23_same.f).bind fun zc3 => (some zc3))) else (some false))) else (none)))
def gradinelaw23_CellsSame.j2 : Nat → Bool → Bool → Int → List Int → List Int → Option (Bool)
 | 0, _, _, _, _, _ => none
 | k + 1, x9, x126, zar, zam, zas => if x126 = true then (some false) else ((some (([2] : List Int) : List Int)).bind fun zbw => (if zbw.length + zam.length < 17592186044416 then ((view_Expand.f k zar zam zas (zbw ++ zam)).bind fun bt879 => (if x9 = true then (if bt879.2.2.2 = 0 then ((cells_Once.f k bt879.1 bt879.2.1 bt879.2.2.1).bind fun zc4 => (if zc4 = true then (some false) else ((gradinelaw23_same.f).bind fun zc5 => (some zc5)))) else ((gradinelaw23_same.f).bind fun zc6 => (some zc6))) else (some false))) else (none)))
end
def gradinelaw23_CellsSame.f (k : Nat) (a0_0 : Int) (l0_1 : List Int) (l0_2 : List Int) (l1 : List Int) (a2 : Int) : Option (Bool) := (gradinelaw22_Many.f a0_0 l0_1 l0_2).bind fun zde => (if zde = true then (gradinelaw23_CellsSame.j0 k l1 a2 true a0_0 l0_1 l0_2) else (if (l1.length : Int) > 20 then (gradinelaw23_CellsSame.j0 k l1 a2 true a0_0 l0_1 l0_2) else ((gradineref22_Right.f k a0_0 l0_1 l0_2 64).bind fun zc8 => (gradinelaw23_CellsSame.j0 k l1 a2 (!zc8) a0_0 l0_1 l0_2))))
def gradinelaw23_CellsSame.T8 : Bool × List (List Nat × List Nat) := (true, [([], []), ([], []), ([0, 1], [0, 1]), ([2], [2]), ([3], [3]), ([3], [3]), ([4, 5, 3], [3, 4, 5]), ([3, 6], [3, 6]), ([7, 3], [7]), ([8], [8]), ([8], [8]), ([9, 10, 8], [8, 9, 10]), ([8, 11], [8, 11]), ([12, 8], [12]), ([13], [13]), ([14, 13, 13], [13, 14]), ([13], [13]), ([16, 15, 13], [13, 16]), ([15, 17, 13], [13, 15, 17]), ([13, 18], [13, 18]), ([19, 17], [19]), ([20], [20]), ([20], [20]), ([21, 22, 20, 20], [20, 21, 22]), ([20], [20]), ([20], [20]), ([24, 25, 23, 20], [20, 24, 25]), ([23, 26, 20], [20, 23, 26]), ([20, 27], [20, 27])])
def gradinelaw23_CellsSame.B8 : List Nat := [0, 0, 3, 7, 15, 15, 63, 127, 255, 511, 511, 2047, 4095, 8191, 16383, 32767, 16383, 131071, 262143, 524287, 1048575, 2097151, 2097151, 8388607, 2097151, 2097151, 67108863, 134217727, 268435455]
theorem gradinelaw23_CellsSame.tab8 : rtab .any (opsOf Try.f7 8) = gradinelaw23_CellsSame.T8 := by kernel_rfl
theorem gradinelaw23_CellsSame.bits8 : waitsOk gradinelaw23_CellsSame.T8.2 gradinelaw23_CellsSame.B8 = true := by kernel_rfl
def gradinelaw23_CellsSame.T12 : Bool × List (List Nat × List Nat) := (true, [([], []), ([], []), ([0, 1], [0, 1]), ([2], [2]), ([3], [3]), ([3], [3]), ([4, 5, 3], [3, 4, 5]), ([3, 6], [3, 6]), ([7, 3], [7]), ([8], [8]), ([8], [8]), ([9, 10, 8], [8, 9, 10]), ([8, 11], [8, 11]), ([12, 8], [12]), ([13], [13]), ([14, 13, 13], [13, 14]), ([13], [13]), ([16, 15, 13], [13, 16]), ([15, 17, 13], [13, 15, 17]), ([13, 18], [13, 18]), ([19, 17], [19]), ([20], [20]), ([20], [20]), ([21, 22, 20, 20], [20, 21, 22]), ([20], [20]), ([20], [20]), ([24, 25, 23, 20], [20, 24, 25]), ([23, 26, 20], [20, 23, 26]), ([20, 27], [20, 27])])
def gradinelaw23_CellsSame.B12 : List Nat := [0, 0, 3, 7, 15, 15, 63, 127, 255, 511, 511, 2047, 4095, 8191, 16383, 32767, 16383, 131071, 262143, 524287, 1048575, 2097151, 2097151, 8388607, 2097151, 2097151, 67108863, 134217727, 268435455]
theorem gradinelaw23_CellsSame.tab12 : rtab .any (opsOf Try.f7 12) = gradinelaw23_CellsSame.T12 := by kernel_rfl
theorem gradinelaw23_CellsSame.bits12 : waitsOk gradinelaw23_CellsSame.T12.2 gradinelaw23_CellsSame.B12 = true := by kernel_rfl
def gradinelaw23_CellsSame.T14 : Bool × List (List Nat × List Nat) := (true, [([], []), ([], []), ([], []), ([2], [2]), ([1, 3], [1, 3]), ([0, 4, 4], [0, 4]), ([5], [5]), ([6], [6]), ([6], [6]), ([], []), ([9, 7, 5, 0, 1, 2, 3, 4, 5, 6, 7, 9], [7, 9]), ([8, 10, 0, 1, 2, 3, 4, 5, 6, 7, 8, 9, 10], [8])])
def gradinelaw23_CellsSame.B14 : List Nat := [0, 0, 0, 4, 14, 31, 63, 127, 127, 0, 767, 2047]
theorem gradinelaw23_CellsSame.tab14 : rtab .any (opsOf Try.f7 14) = gradinelaw23_CellsSame.T14 := by kernel_rfl
theorem gradinelaw23_CellsSame.bits14 : waitsOk gradinelaw23_CellsSame.T14.2 gradinelaw23_CellsSame.B14 = true := by kernel_rfl
set_option maxHeartbeats 8000000 in
set_option maxRecDepth 100000 in
theorem gradinelaw23_CellsSame.calls (k : Nat) (a0_0 : Int) (A0_1 : Option Addr) (c0_1 : Nat) (l0_1 : List Int) (A0_2 : Option Addr) (c0_2 : Nat) (l0_2 : List Int) (A1 : Option Addr) (c1 : Nat) (l1 : List Int) (a2 : Int) (w : World) (hr0_1 : Kd.C (Kd.int .i64) w A0_1 l0_1.length l0_1) (hc0_1 : l0_1.length ≤ c0_1) (hr0_2 : Kd.C (Kd.int .i64) w A0_2 l0_2.length l0_2) (hc0_2 : l0_2.length ≤ c0_2) (hr1 : Kd.C (Kd.int .i64) w A1 l1.length l1) (hc1 : l1.length ≤ c1) (h : gradinelaw23_CellsSame.f k a0_0 l0_1 l0_2 l1 a2 = some true) :
  Calls Try.prog 7 #[.agg #[.int .i64 a0_0, .slice A0_1 l0_1.length c0_1, .slice A0_2 l0_2.length c0_2], .slice A1 l1.length c1, .int .i64 a2] w fun e w' => e = .returned (.bool true) ∧ Below w.heap.size w w' := by
 have hu24 := Try.underlying24
 have zal := aM hr0_1
 have zav := aM hc0_1
 clear hr0_1 hc0_1
 have zaw := aM hr0_2
 have zax := aM hc0_2
 clear hr0_2 hc0_2
 have HR1 := aM hr1
 have HC1 := aM hc1
 clear hr1 hc1
 have HB := aM (Below.refl w.heap.size w)
 have H : ((gradinelaw22_Many.f a0_0 l0_1 l0_2).bind fun zde => (if zde = true then (gradinelaw23_CellsSame.j0 k l1 a2 true a0_0 l0_1 l0_2) else (if (l1.length : Int) > 20 then (gradinelaw23_CellsSame.j0 k l1 a2 true a0_0 l0_1 l0_2) else ((gradineref22_Right.f k a0_0 l0_1 l0_2 64).bind fun zc8 => (gradinelaw23_CellsSame.j0 k l1 a2 (!zc8) a0_0 l0_1 l0_2))))) = some true := h
 clear h
 have HC4 := aM H
 clear H
 go_enter Try.func7, Try.ntmps7
 go_upto_region 1 with (first | ((with_reducible refine gate_dst (N := 3) rfl ?_); (try (refine gate_guard (by rfl) ?_; dsimp only)); refine box_event ?hg (N := 3) ?hd (cs := #[.int .i64 a0_0, .slice A0_1 l0_1.length c0_1, .slice A0_2 l0_2.length c0_2]) (t := 24) ?hr ?_; (case hd => rfl); (case hg => rfl); (case hr => first | (go_simp; done) | (go_simp; rfl)); intro zy hg w5 hbox hb; have ze := aM (hbox); have GW834 := gE (w := w) hg (qB HB); have zh := GW834; replace HB := bS (qB HB) hb; clear hb hbox hg))
 (try simp only [Act.put, sP])
 go_cut [33] (fun v33 wc => ∃ (kq : Nat) (x33_3 : Bool), v33 = .bool x33_3 ∧ Aside0 (gradinelaw23_CellsSame.j0 kq l1 a2 x33_3 a0_0 l0_1 l0_2 = some true) ∧ Aside0 (kq ≤ k) ∧ Aside0 (wc.heap[zy]? = some (.cells #[.int .i64 a0_0, (.slice A0_1 l0_1.length c0_1), (.slice A0_2 l0_2.length c0_2)] 24 (0, 0))) ∧ Aside0 (Below w.heap.size w wc))
 case first =>
  have H := HC4.out
  clear HC4
  replace H := Option.bind_eq_some_iff.mp H
  obtain ⟨zde, A60, H⟩ := H
  try dsimp only at H
  have A6 := aM A60
  clear A60
  by_cases c7 : zde = true
  ·subst c7
   rw [if_pos rfl] at H
   have H' := aM H
   clear H
   obtain ⟨hcz8_0, hcz8_1, hcz8_2, hfz8_0, hfz8_1, hfz8_2⟩ := blk3 ze.out
   go_wp2_with (first | ((with_reducible refine gate_callee (f := 8) rfl ?_); refine goesL_ (some 23) rfl rfl Try.func8 (by kernel_rfl) rfl #[.agg #[.int .i64 a0_0, .slice A0_1 l0_1.length c0_1, .slice A0_2 l0_2.length c0_2]] rfl pA ?_; (with_reducible refine (gradinelaw22_Many.calls a0_0 _ _ l0_1 _ _ l0_2 true _ ?s1 ?s2 ?s3 ?s4 A6.out).mono ?_); (case s1 => exact sC zal HB); (case s2 => exact zav.out); (case s3 => exact sC zaw HB); (case s4 => exact zax.out); rintro e w9 ⟨rfl, hb⟩; refine ⟨_, rfl, ?_⟩; replace ze := bK ze hb; replace HB := bS (qB1 HB zh) hb; (try clear hb); (try clear hk); (try clear hi)))
   go_meet
   case rel => exact ⟨_, (true), (pF), H', ⟨by first | omega | exact Nat.le_refl _⟩, ⟨pK ze.out⟩, ⟨qB1 HB zh⟩⟩
  replace c7 := Bool.eq_false_iff.mpr c7
  subst c7
  rw [if_neg (show ¬ (false = true) by decide)] at H
  by_cases c10 : (l1.length : Int) > 20
  ·rw [if_pos c10] at H
   have zcx : decide (20 < (l1.length : Int)) = true := decide_eq_true c10
   have c10b1 : decide (20 < l1.length) = true := decide_eq_true (by omega)
   clear c10
   (first | rw [zcx] | (simp only [i64_w, i32_w]; rw [zcx]) | skip)
   have H' := aM H
   clear H
   obtain ⟨hcz11_0, hcz11_1, hcz11_2, hfz11_0, hfz11_1, hfz11_2⟩ := blk3 ze.out
   go_wp2_with (first | ((with_reducible refine gate_callee (f := 8) rfl ?_); refine goesL_ (some 23) rfl rfl Try.func8 (by kernel_rfl) rfl #[.agg #[.int .i64 a0_0, .slice A0_1 l0_1.length c0_1, .slice A0_2 l0_2.length c0_2]] rfl pA ?_; (with_reducible refine (gradinelaw22_Many.calls a0_0 _ _ l0_1 _ _ l0_2 false _ ?s1 ?s2 ?s3 ?s4 A6.out).mono ?_); (case s1 => exact sC zal HB); (case s2 => exact zav.out); (case s3 => exact sC zaw HB); (case s4 => exact zax.out); rintro e w12 ⟨rfl, hb⟩; refine ⟨_, rfl, ?_⟩; replace ze := bK ze hb; replace HB := bS (qB1 HB zh) hb; (try clear hb); (try clear hk); (try clear hi)))
   go_meet
   case rel => exact ⟨_, (true), (pF), H', ⟨by first | omega | exact Nat.le_refl _⟩, ⟨pK ze.out⟩, ⟨qB1 HB zh⟩⟩
  rw [if_neg c10] at H
  have zcx : decide (20 < (l1.length : Int)) = false := decide_eq_false c10
  have c10b1 : decide (20 < l1.length) = false := decide_eq_false (by omega)
  clear c10
  (first | rw [zcx] | (simp only [i64_w, i32_w]; rw [zcx]) | skip)
  replace H := Option.bind_eq_some_iff.mp H
  obtain ⟨zc8, zeo, H⟩ := H
  try dsimp only at H
  have A13 := aM zeo
  clear zeo
  have H' := aM H
  clear H
  obtain ⟨hcz14_0, hcz14_1, hcz14_2, hfz14_0, hfz14_1, hfz14_2⟩ := blk3 ze.out
  go_wp2_with (first | ((with_reducible refine gate_callee (f := 8) rfl ?_); refine goesL_ (some 23) rfl rfl Try.func8 (by kernel_rfl) rfl #[.agg #[.int .i64 a0_0, .slice A0_1 l0_1.length c0_1, .slice A0_2 l0_2.length c0_2]] rfl pA ?_; (with_reducible refine (gradinelaw22_Many.calls a0_0 _ _ l0_1 _ _ l0_2 false _ ?s1 ?s2 ?s3 ?s4 A6.out).mono ?_); (case s1 => exact sC zal HB); (case s2 => exact zav.out); (case s3 => exact sC zaw HB); (case s4 => exact zax.out); rintro e w15 ⟨rfl, hb⟩; refine ⟨_, rfl, ?_⟩; replace ze := bK ze hb; replace HB := bS (qB1 HB zh) hb; (try clear hb); (try clear hk); (try clear hi); obtain ⟨hcz16_0, hcz16_1, hcz16_2, hfz16_0, hfz16_1, hfz16_2⟩ := blk3 ze.out) | (go_at_call 13; (with_reducible refine (gradineref22_Right.calls k a0_0 _ _ l0_1 _ _ l0_2 64 zc8 _ ?s1 ?s2 ?s3 ?s4 A13.out).mono ?_); (case s1 => exact sC zal HB); (case s2 => exact zav.out); (case s3 => exact sC zaw HB); (case s4 => exact zax.out); rintro e w17 ⟨rfl, hb⟩; replace ze := bK ze hb; replace HB := bS (qB1 HB zh) hb; (try clear hb); (try clear hk); (try clear hi)))
  go_meet
  case rel => exact ⟨_, (!zc8), (pF), H', ⟨by first | omega | exact Nat.le_refl _⟩, ⟨pK ze.out⟩, ⟨qB1 HB zh⟩⟩
 case rest =>
  clear HC4
  try clear c1
  obtain ⟨kq, x33_3, rfl, HA, HJ3, ze, HB⟩ := hcut
  cases kq with
  | zero => exact absurd HA.out (by simp [gradinelaw23_CellsSame.j0])
  | succ kj3 =>
   have H := HA.out
   clear HA
   simp only [gradinelaw23_CellsSame.j0] at H
   by_cases c18 : x33_3 = true
   ·subst c18
    rw [if_pos rfl] at H
    replace H := Option.bind_eq_some_iff.mp H
    obtain ⟨zej, zep, H⟩ := H
    try dsimp only at H
    have A19 := aM zep
    clear zep
    have hv_ := aM (Option.some.inj H)
    clear H
    go_wp2_with (first | ((with_reducible refine gate_callee (f := 26) rfl ?_); refine goesL_ (some 34) rfl rfl Try.func26 (by kernel_rfl) rfl #[] rfl pA ?_; (with_reducible refine (gradinelaw23_same.calls  zej _ A19.out).mono ?_); rintro e w20 ⟨rfl, hb⟩; refine ⟨_, rfl, ?_⟩; replace ze := bK ze hb; replace HB := bS (qB1 HB zh) hb; (try clear hb); (try clear hk); (try clear hi)))
    go_ret
    replace hv_ := hv_.out
    exact ⟨pE, qB1 HB zh⟩
   replace c18 := Bool.eq_false_iff.mpr c18
   subst c18
   rw [if_neg (show ¬ (false = true) by decide)] at H
   replace H := Option.bind_eq_some_iff.mp H
   obtain ⟨⟨zbu, zch, za9⟩, zeq, H⟩ := H
   try dsimp only at H
   have A21 := aM zeq
   clear zeq
   replace H := Option.bind_eq_some_iff.mp H
   obtain ⟨⟨zba, zo, zp, zc9⟩, zer, H⟩ := H
   try dsimp only at H
   have A22 := aM zer
   clear zer
   replace H := Option.bind_eq_some_iff.mp H
   obtain ⟨⟨za8, zm, zn, zc7⟩, zes, H⟩ := H
   try dsimp only at H
   have A23 := aM zes
   clear zes
   have HC24 := aM H
   clear H
   obtain ⟨hcz25_0, hcz25_1, hcz25_2, hfz25_0, hfz25_1, hfz25_2⟩ := blk3 ze.out
   go_upto_if 54 with (first | ((with_reducible refine gate_callee (f := 27) rfl ?_); refine goesL_ (some 37) rfl rfl Try.func27 (by kernel_rfl) rfl #[.agg #[.int .i64 a0_0, .slice A0_1 l0_1.length c0_1, .slice A0_2 l0_2.length c0_2]] rfl pA ?_; (with_reducible refine (cells_Span.calls kj3 a0_0 _ _ l0_1 _ _ l0_2 zbu zch za9 _ ?s1 ?s2 ?s3 ?s4 A21.out).mono ?_); (case s1 => exact sC zal HB); (case s2 => exact zav.out); (case s3 => exact sC zaw HB); (case s4 => exact zax.out); rintro e w26 ⟨rfl, hb⟩; refine ⟨_, rfl, ?_⟩; replace ze := bK ze hb; replace HB := bS (qB1 HB zh) hb; (try clear hb); (try clear hk); (try clear hi); obtain ⟨hcz27_0, hcz27_1, hcz27_2, hfz27_0, hfz27_1, hfz27_2⟩ := blk3 ze.out) | ((with_reducible refine gate_callee (f := 21) rfl ?_); refine goesL_ (some 44) rfl rfl Try.func21 (by kernel_rfl) rfl #[.agg #[.int .i64 a0_0, .slice A0_1 l0_1.length c0_1, .slice A0_2 l0_2.length c0_2], .slice A1 l1.length c1] rfl pA ?_; (with_reducible refine (view_Permute.calls kj3 a0_0 _ _ l0_1 _ _ l0_2 _ _ l1 zba zo zp zc9 _ ?s1 ?s2 ?s3 ?s4 ?s5 ?s6 A22.out).mono ?_); (case s1 => exact sC zal HB); (case s2 => exact zav.out); (case s3 => exact sC zaw HB); (case s4 => exact zax.out); (case s5 => exact sC HR1 HB); (case s6 => exact HC1.out); rintro e w28 ⟨v843, v846, rfl, ho0, ho1, hb⟩; refine ⟨_, rfl, ?_⟩; have zat := aM (Kd.R_lower ho0 (below_size (qB1 HB zh))); have zau := aM (Kd.R_lower ho1 (below_size (qB1 HB zh))); replace ze := bK ze hb; replace HB := bS (qB1 HB zh) hb; (try clear hb); (try clear hk); (try clear hi); (try clear ho0); (try clear ho1)) | ((with_reducible refine gate_dst (N := 10) rfl ?_); (try (refine gate_guard (by rfl) ?_; dsimp only)); refine box_event ?hg (N := 10) ?hd (cs := #[.int .i64 0, .slice none 0 0, .slice none 0 0]) (t := 24) ?hr ?_; (case hd => rfl); (case hg => rfl); (case hr => first | (go_simp; done) | (go_simp; rfl)); intro zai hg w29 hbox hb; replace zat := bR zat hb; replace zau := bR zau hb; have zg := aM (hbox); have GW849 := gE (w := w) hg (qB1 HB zh); have zi := GW849; replace HB := bS (qB1 HB zh) hb; have zbx := nL hg ze; have zcl := nG hg ze; replace ze := bK ze hb; clear hb hbox hg; have hnb30 := zcl.out; have hnc30 := zbx.out; obtain ⟨hcz31_0, hcz31_1, hcz31_2, hfz31_0, hfz31_1, hfz31_2⟩ := blk3 zg.out; obtain ⟨zw, zu, eo32⟩ := Kd.R_slice zat.out; subst eo32; obtain ⟨zx, zv, eo33⟩ := Kd.R_slice zau.out; subst eo33; obtain ⟨hcz34_0, hcz34_1, hcz34_2, hfz34_0, hfz34_1, hfz34_2⟩ := blk3 ze.out) | ((with_reducible refine gate_callee (f := 19) rfl ?_); refine goesL_ (some 50) rfl rfl Try.func19 (by kernel_rfl) rfl #[.agg #[.int .i64 a0_0, .slice A0_1 l0_1.length c0_1, .slice A0_2 l0_2.length c0_2], .int .i64 a2] rfl pA ?_; (with_reducible refine (view_Flip.calls kj3 a0_0 _ _ l0_1 _ _ l0_2 a2 za8 zm zn zc7 _ ?s1 ?s2 ?s3 ?s4 A23.out).mono ?_); (case s1 => exact Kd.C_below zal.out (qB2 HB zh zi)); (case s2 => exact zav.out); (case s3 => exact Kd.C_below zaw.out (qB2 HB zh zi)); (case s4 => exact zax.out); rintro e w35 ⟨v852, v855, rfl, ho0, ho1, hb⟩; refine ⟨_, rfl, ?_⟩; have za6 := aM (Kd.R_lower (Kd.R_new' (Kd.R_new' ho0 (Kd.R_lt (by (with_reducible repeat (first | apply rA | apply rN | apply rD)); exact (F3 zat zg (fun _ h_ => h_.1))))) (Kd.R_lt (by (with_reducible repeat (first | apply rA | apply rN | apply rD)); exact (F3 zau zg (fun _ h_ => h_.1))))) (below_size (qB2 HB zh zi))); have za7 := aM (Kd.R_lower (Kd.R_new' (Kd.R_new' ho1 (Kd.R_lt (by (with_reducible repeat (first | apply rA | apply rN | apply rD)); exact (F3 zat zg (fun _ h_ => h_.1))))) (Kd.R_lt (by (with_reducible repeat (first | apply rA | apply rN | apply rD)); exact (F3 zau zg (fun _ h_ => h_.1))))) (below_size (qB2 HB zh zi))); replace zat := aM (Kd.R_mono (Kd.R_told (Kd.R_told (Kd.R_old (by (with_reducible repeat (first | apply rA | apply rN | apply rD)); exact (F3 zat zg (fun _ h_ => h_.1))) hb) (Kd.R_base ho0)) (Kd.R_base ho1)) (fun _ h_ => h_.1)); replace zau := aM (Kd.R_mono (Kd.R_told (Kd.R_told (Kd.R_old (by (with_reducible repeat (first | apply rA | apply rN | apply rD)); exact (F3 zau zg (fun _ h_ => h_.1))) hb) (Kd.R_base ho0)) (Kd.R_base ho1)) (fun _ h_ => h_.1)); replace ze := aM (blk_below (g := zy) (o := .cells #[.int .i64 a0_0, .slice A0_1 l0_1.length c0_1, .slice A0_2 l0_2.length c0_2] 24 (0, 0)) (by refine B3 zbx ?_; exact ze.out) hb); replace zg := aM (blk_below (g := zai) (o := .cells #[.int .i64 zba, .slice zw zo.length zu, .slice zx zp.length zv] 24 (0, 0)) (by exact P3 zg) hb); replace HB := bS (qB2 HB zh zi) hb; (try clear hb); (try clear hk); (try clear hi); (try clear ho0); (try clear ho1)) | ((with_reducible refine gate_dst (N := 12) rfl ?_); (try (refine gate_guard (by rfl) ?_; dsimp only)); refine box_event ?hg (N := 12) ?hd (cs := #[.int .i64 0, .slice none 0 0, .slice none 0 0]) (t := 24) ?hr ?_; (case hd => rfl); (case hg => rfl); (case hr => first | (go_simp; done) | (go_simp; rfl)); intro zah hg w36 hbox hb; replace zat := bR zat hb; replace zau := bR zau hb; replace za6 := bR za6 hb; replace za7 := bR za7 hb; have zf := aM (hbox); have GW858 := gE (w := w) hg (qB2 HB zh zi); have zj := GW858; replace HB := bS (qB2 HB zh zi) hb; have zbt := nL hg ze; have zcm := nG hg ze; replace ze := bK ze hb; have zbe := nL hg zg; have zby := nG hg zg; replace zg := bK zg hb; clear hb hbox hg; have hnb37 := zcm.out; have hnc37 := zbt.out; have hnb38 := zby.out; have hnc38 := zbe.out; obtain ⟨hcz39_0, hcz39_1, hcz39_2, hfz39_0, hfz39_1, hfz39_2⟩ := blk3 zf.out; obtain ⟨zq, zr, eo40⟩ := Kd.R_slice za6.out; subst eo40; obtain ⟨zs, zt, eo41⟩ := Kd.R_slice za7.out; subst eo41))
   (try simp only [Act.put, sP])
   go_cut [] (fun wc => ∃ (kq : Nat), Aside0 (gradinelaw23_CellsSame.j1 kq zbu zch za9 zc7 a0_0 l0_1 l0_2 za8 zm zn = some true) ∧ Aside0 (kq ≤ kj3) ∧ Aside0 (Kd.R (Kd.int .i64) 3 wc w.heap.size (fun k_ => some k_ ≠ ((.slice zx zp.length zv) : Value).ownBlock ∧ some k_ ≠ ((.slice zq zm.length zr) : Value).ownBlock ∧ some k_ ≠ ((.slice zs zn.length zt) : Value).ownBlock) (.slice zw zo.length zu) zo) ∧ Aside0 (Kd.R (Kd.int .i64) 3 wc w.heap.size (fun k_ => some k_ ≠ ((.slice zw zo.length zu) : Value).ownBlock ∧ some k_ ≠ ((.slice zq zm.length zr) : Value).ownBlock ∧ some k_ ≠ ((.slice zs zn.length zt) : Value).ownBlock) (.slice zx zp.length zv) zp) ∧ Aside0 (Kd.R (Kd.int .i64) 3 wc w.heap.size (fun k_ => some k_ ≠ ((.slice zw zo.length zu) : Value).ownBlock ∧ some k_ ≠ ((.slice zx zp.length zv) : Value).ownBlock ∧ some k_ ≠ ((.slice zs zn.length zt) : Value).ownBlock) (.slice zq zm.length zr) zm) ∧ Aside0 (Kd.R (Kd.int .i64) 3 wc w.heap.size (fun k_ => some k_ ≠ ((.slice zw zo.length zu) : Value).ownBlock ∧ some k_ ≠ ((.slice zx zp.length zv) : Value).ownBlock ∧ some k_ ≠ ((.slice zq zm.length zr) : Value).ownBlock) (.slice zs zn.length zt) zn) ∧ Aside0 (wc.heap[zy]? = some (.cells #[.int .i64 a0_0, (.slice A0_1 l0_1.length c0_1), (.slice A0_2 l0_2.length c0_2)] 24 (0, 0))) ∧ Aside0 (wc.heap[zai]? = some (.cells #[.int .i64 zba, (.slice zw zo.length zu), (.slice zx zp.length zv)] 24 (0, 0))) ∧ Aside0 (wc.heap[zah]? = some (.cells #[.int .i64 za8, (.slice zq zm.length zr), (.slice zs zn.length zt)] 24 (0, 0))) ∧ Aside0 (Below w.heap.size w wc))
   case first =>
    have H := HC24.out
    clear HC24
    by_cases c42 : zc9 = 0
    rotate_left
    ·rw [if_neg c42] at H
     have zcy : (zc9 == 0) = false := beq_eq_false_iff_ne.mpr c42
     have c42b1 : (zc9 != 0) = true := bne_iff_ne.mpr c42
     (first | rw [zcy] | (simp only [i64_w, i32_w]; rw [zcy]) | skip)
     have H' := aM H
     clear H
     go_wp2
     go_meet
     case rel => exact ⟨_, H', ⟨by have := HJ3.out; first | omega | exact Nat.le_refl _⟩, ⟨by (with_reducible repeat (first | apply rA | apply rN | apply rD)); exact F3 zat zf (fun _ hk => ⟨hk.1.1.1, ⟨hk.1.1.2, hk.1.2⟩⟩)⟩, ⟨by (with_reducible repeat (first | apply rA | apply rN | apply rD)); exact F3 zau zf (fun _ hk => ⟨hk.1.1.1, ⟨hk.1.1.2, hk.1.2⟩⟩)⟩, ⟨by (with_reducible repeat (first | apply rA | apply rN | apply rD)); exact F3 za6 zf (fun _ hk => ⟨hk.1.1.2, ⟨hk.1.2, hk.1.1.1⟩⟩)⟩, ⟨by (with_reducible repeat (first | apply rA | apply rN | apply rD)); exact F3 za7 zf (fun _ hk => ⟨hk.1.1.2, ⟨hk.1.2, hk.1.1.1⟩⟩)⟩, ⟨by refine B3 zbt ?_; exact ze.out⟩, ⟨by refine B3 zbe ?_; exact zg.out⟩, ⟨by exact P3 zf⟩, ⟨qB3 HB zh zi zj⟩⟩
    rw [if_pos c42] at H
    have zcy : (zc9 == 0) = true := beq_iff_eq.mpr c42
    have c42b1 : (zc9 != 0) = false := bne_eq_false_iff_eq.mpr c42
    clear c42
    (first | rw [zcy] | (simp only [i64_w, i32_w]; rw [zcy]) | skip)
    replace H := Option.bind_eq_some_iff.mp H
    obtain ⟨⟨zda, zdb, zct⟩, zet, H⟩ := H
    try dsimp only at H
    have A43 := aM zet
    clear zet
    by_cases c44 : zbu = zda
    rotate_left
    ·rw [if_neg c44] at H
     have c44b0 : (zbu == zda) = false := beq_eq_false_iff_ne.mpr c44
     have c44b1 : (zbu != zda) = true := bne_iff_ne.mpr c44
     exact absurd H (by simp)
    rw [if_pos c44] at H
    have c44b0 : (zbu == zda) = true := beq_iff_eq.mpr c44
    have c44b1 : (zbu != zda) = false := bne_eq_false_iff_eq.mpr c44
    clear c44
    by_cases c45 : zch = zdb
    rotate_left
    ·rw [if_neg c45] at H
     have c45b0 : (zch == zdb) = false := beq_eq_false_iff_ne.mpr c45
     have c45b1 : (zch != zdb) = true := bne_iff_ne.mpr c45
     exact absurd H (by simp)
    rw [if_pos c45] at H
    have c45b0 : (zch == zdb) = true := beq_iff_eq.mpr c45
    have c45b1 : (zch != zdb) = false := bne_eq_false_iff_eq.mpr c45
    clear c45
    by_cases c46 : (za9 != zct) = true
    ·rw [if_pos c46] at H
     have c46b0 : (za9 != zct) = true := c46
     (try (have c46b1 : decide (za9 = zct) = false := by simpa using c46))
     (try (have c46b2 : (za9 == zct) = false := by simpa using c46))
     (try (have c46b3 : ¬ (za9 = zct) := by simpa using c46))
     clear c46
     exact absurd H (by simp)
    rw [if_neg c46] at H
    have c46b0 : (za9 != zct) = false := by simpa using c46
    (try (have c46b1 : decide (za9 = zct) = true := by simpa using c46))
    (try (have c46b2 : (za9 == zct) = true := by simpa using c46))
    clear c46
    replace H := Option.bind_eq_some_iff.mp H
    obtain ⟨zcj, zeu, H⟩ := H
    try dsimp only at H
    have A47 := aM zeu
    clear zeu
    replace H := Option.bind_eq_some_iff.mp H
    obtain ⟨zck, zev, H⟩ := H
    try dsimp only at H
    have A48 := aM zev
    clear zev
    by_cases c49 : (zcj != zck) = true
    ·rw [if_pos c49] at H
     have c49b0 : (zcj != zck) = true := c49
     (try (have c49b1 : decide (zcj = zck) = false := by simpa using c49))
     (try (have c49b2 : (zcj == zck) = false := by simpa using c49))
     (try (have c49b3 : ¬ (zcj = zck) := by simpa using c49))
     clear c49
     exact absurd H (by simp)
    rw [if_neg c49] at H
    have c49b0 : (zcj != zck) = false := by simpa using c49
    (try (have c49b1 : decide (zcj = zck) = true := by simpa using c49))
    (try (have c49b2 : (zcj == zck) = true := by simpa using c49))
    clear c49
    replace H := Option.bind_eq_some_iff.mp H
    obtain ⟨zcv, zew, H⟩ := H
    try dsimp only at H
    have A50 := aM zew
    clear zew
    replace H := Option.bind_eq_some_iff.mp H
    obtain ⟨zcw, zex, H⟩ := H
    try dsimp only at H
    have A51 := aM zex
    clear zex
    by_cases c52 : zcv = zcw
    rotate_left
    ·rw [if_neg c52] at H
     have c52b0 : (zcv == zcw) = false := beq_eq_false_iff_ne.mpr c52
     have c52b1 : (zcv != zcw) = true := bne_iff_ne.mpr c52
     exact absurd H (by simp)
    rw [if_pos c52] at H
    have c52b0 : (zcv == zcw) = true := beq_iff_eq.mpr c52
    have c52b1 : (zcv != zcw) = false := bne_eq_false_iff_eq.mpr c52
    clear c52
    have H' := aM H
    clear H
    have hnb53 := zcl.out
    have hnc53 := zbx.out
    have hnb54 := zbe.out
    have hnc54 := zby.out
    obtain ⟨hcz55_0, hcz55_1, hcz55_2, hfz55_0, hfz55_1, hfz55_2⟩ := blk3 zg.out
    try go_wp2_with (first | ((with_reducible refine gate_callee (f := 27) rfl ?_); refine goesL_ (some 57) rfl rfl Try.func27 (by kernel_rfl) rfl #[.agg #[.int .i64 zba, .slice zw zo.length zu, .slice zx zp.length zv]] rfl pA ?_; (with_reducible refine (cells_Span.calls kj3 zba _ _ zo _ _ zp zda zdb zct _ ?s1 ?s2 ?s3 ?s4 A43.out).mono ?_); (case s1 => refine (Kd.R_reads' (e := 3) (base := w.heap.size) (ok := fun k_ => ((some k_ ≠ (.slice zx zp.length zv : Value).ownBlock ∧ some k_ ≠ (.slice zq zm.length zr : Value).ownBlock) ∧ some k_ ≠ (.slice zs zn.length zt : Value).ownBlock)) (n := zo.length) (c := zu) ?_).2.2; exact (by (with_reducible repeat (first | apply rA | apply rN | apply rD)); exact (F3 zat zf (fun _ h_ => h_.1)))); (case s2 => exact sL zat); (case s3 => refine (Kd.R_reads' (e := 3) (base := w.heap.size) (ok := fun k_ => ((some k_ ≠ (.slice zw zo.length zu : Value).ownBlock ∧ some k_ ≠ (.slice zq zm.length zr : Value).ownBlock) ∧ some k_ ≠ (.slice zs zn.length zt : Value).ownBlock)) (n := zp.length) (c := zv) ?_).2.2; exact (by (with_reducible repeat (first | apply rA | apply rN | apply rD)); exact (F3 zau zf (fun _ h_ => h_.1)))); (case s4 => exact sL zau); rintro e w56 ⟨rfl, hb⟩; refine ⟨_, rfl, ?_⟩; replace zat := aM (Kd.R_below (by (with_reducible repeat (first | apply rA | apply rN | apply rD)); exact (F3 zat zf (fun _ h_ => h_.1))) hb); replace zau := aM (Kd.R_below (by (with_reducible repeat (first | apply rA | apply rN | apply rD)); exact (F3 zau zf (fun _ h_ => h_.1))) hb); replace za6 := aM (Kd.R_below (by (with_reducible repeat (first | apply rA | apply rN | apply rD)); exact (F3 za6 zf (fun _ h_ => h_.1))) hb); replace za7 := aM (Kd.R_below (by (with_reducible repeat (first | apply rA | apply rN | apply rD)); exact (F3 za7 zf (fun _ h_ => h_.1))) hb); replace ze := aM (blk_below (g := zy) (o := .cells #[.int .i64 a0_0, .slice A0_1 l0_1.length c0_1, .slice A0_2 l0_2.length c0_2] 24 (0, 0)) (by refine B3 zbt ?_; exact ze.out) hb); replace zg := aM (blk_below (g := zai) (o := .cells #[.int .i64 zba, .slice zw zo.length zu, .slice zx zp.length zv] 24 (0, 0)) (by refine B3 zbe ?_; exact zg.out) hb); replace zf := aM (blk_below (g := zah) (o := .cells #[.int .i64 za8, .slice zq zm.length zr, .slice zs zn.length zt] 24 (0, 0)) (by exact P3 zf) hb); replace HB := bS (qB3 HB zh zi zj) hb; (try clear hb); (try clear hk); (try clear hi)))
    replace zat := aM (Kd.R_drew zat.out)
    replace zau := aM (Kd.R_drew zau.out)
    replace za6 := aM (Kd.R_drew za6.out)
    replace za7 := aM (Kd.R_drew za7.out)
    replace ze := aM (blk_drew ze.out)
    replace zg := aM (blk_drew zg.out)
    replace zf := aM (blk_drew zf.out)
    replace HB := aM (below_drew1 HB.out)
    refine start_ (n := 29) (S := fun w' => w'.cell? ⟨zai, 0, none⟩ = some (.int .i64 zba) ∧ w'.cell? ⟨zai, 1, none⟩ = some (.slice zw zo.length zu) ∧ w'.cell? ⟨zai, 2, none⟩ = some (.slice zx zp.length zv) ∧ w'.cell? ⟨zy, 0, none⟩ = some (.int .i64 a0_0) ∧ w'.cell? ⟨zy, 1, none⟩ = some (.slice A0_1 l0_1.length c0_1) ∧ w'.cell? ⟨zy, 2, none⟩ = some (.slice A0_2 l0_2.length c0_2)) (ds := []) (bm 29 0) (by kernel_rfl) rfl rfl ⟨(blk_cell zg.out 0).trans rfl, (blk_cell zg.out 1).trans rfl, (blk_cell zg.out 2).trans rfl, (blk_cell ze.out 0).trans rfl, (blk_cell ze.out 1).trans rfl, (blk_cell ze.out 2).trans rfl⟩ (fun hHeld => ?_); refine with_tabW gradinelaw23_CellsSame.tab8 gradinelaw23_CellsSame.bits8 (fun HT_ HW_ => ?_)
    generalize w56.drew = w57 at zat zau za6 za7 ze zg zf HB hHeld ⊢
    refine pP (i := 0) (N := some 61) (bm 29 1) rfl rfl HT_.out ?_
    refine pP (i := 1) (N := some 62) (bm 29 3) rfl rfl HT_.out ?_
    refine pP (i := 2) (N := some 63) (bm 29 7) rfl rfl HT_.out ?_
    refine pP (i := 3) (N := some 64) (bm 29 15) rfl rfl HT_.out ?_
    refine pP (i := 4) (N := some 65) (bm 29 31) rfl rfl HT_.out ?_
    refine pP (i := 5) (N := some 66) (bm 29 63) rfl rfl HT_.out ?_
    refine pP (i := 6) (N := some 67) (bm 29 127) rfl rfl HT_.out ?_
    refine pP (i := 7) (N := some 68) (bm 29 255) rfl rfl HT_.out ?_
    refine pP (i := 8) (N := some 69) (bm 29 511) rfl rfl HT_.out ?_
    refine pP (i := 9) (N := some 70) (bm 29 1023) rfl rfl HT_.out ?_
    refine pP (i := 10) (N := some 71) (bm 29 2047) rfl rfl HT_.out ?_
    refine pP (i := 11) (N := some 72) (bm 29 4095) rfl rfl HT_.out ?_
    refine pP (i := 12) (N := some 73) (bm 29 8191) rfl rfl HT_.out ?_
    refine pP (i := 13) (N := some 74) (bm 29 16383) rfl rfl HT_.out ?_
    refine pT (i := 14) (N := some 75) (bm 29 32767) rfl rfl HT_.out HW_.out hHeld (by rintro w' ⟨s0, s1, s2, s3, s4, s5⟩; go_simp; with_reducible rfl) ?_
    refine pT (i := 16) (N := some 77) (bm 29 98303) rfl rfl HT_.out HW_.out hHeld (by rintro w' ⟨s0, s1, s2, s3, s4, s5⟩; go_simp; with_reducible rfl) ?_
    refine one_ (i := 15) (N := some 76) (bm 29 131071) rfl rfl (one_of HT_.out (by kernel_rfl)) (by decide) (fun K hK => ?_)
    refine goes_ Try.func30 (by kernel_rfl) rfl #[.agg #[.int .i64 zba, .slice zw zo.length zu, .slice zx zp.length zv]] (by rfl) rfl rfl pA ?_
    with_reducible refine (cells_Once.calls kj3 zba _ _ zo _ _ zp zcj _ ?s1 ?s2 ?s3 ?s4 A47.out).mono ?_
    (case s1 => exact sR zat)
    (case s2 => exact sL zat)
    (case s3 => exact sR zau)
    (case s4 => exact sL zau)
    rintro e w58 ⟨rfl, hb⟩
    refine ⟨_, rfl, ?_⟩
    replace zat := bR zat hb
    replace zau := bR zau hb
    replace za6 := bR za6 hb
    replace za7 := bR za7 hb
    replace ze := bK ze hb
    replace zg := bK zg hb
    replace zf := bK zf hb
    replace HB := bS (qB3 HB zh zi zj) hb
    (try clear hb)
    (try clear hk)
    (try clear hi)
    refine hK.out _ _ ⟨(blk_cell zg.out 0).trans rfl, (blk_cell zg.out 1).trans rfl, (blk_cell zg.out 2).trans rfl, (blk_cell ze.out 0).trans rfl, (blk_cell ze.out 1).trans rfl, (blk_cell ze.out 2).trans rfl⟩ (fun hHeld => ?_)
    clear hK K
    refine norm_ (a' := ?_) ?_ ?_
    rotate_left
    ·show Act.put _ (some 76) _ = _
     simp only [Act.put, sP, i64_w, i32_w]
     rfl
    refine one_ (i := 17) (N := some 78) (bm 29 262143) rfl rfl (one_of HT_.out (by kernel_rfl)) (by decide) (fun K hK => ?_)
    refine goes_ Try.func30 (by kernel_rfl) rfl #[.agg #[.int .i64 a0_0, .slice A0_1 l0_1.length c0_1, .slice A0_2 l0_2.length c0_2]] (by rfl) rfl rfl pA ?_
    with_reducible refine (cells_Once.calls kj3 a0_0 _ _ l0_1 _ _ l0_2 zck _ ?s1 ?s2 ?s3 ?s4 A48.out).mono ?_
    (case s1 => exact sC zal HB)
    (case s2 => exact zav.out)
    (case s3 => exact sC zaw HB)
    (case s4 => exact zax.out)
    rintro e w59 ⟨rfl, hb⟩
    refine ⟨_, rfl, ?_⟩
    replace zat := bR zat hb
    replace zau := bR zau hb
    replace za6 := bR za6 hb
    replace za7 := bR za7 hb
    replace ze := bK ze hb
    replace zg := bK zg hb
    replace zf := bK zf hb
    replace HB := bS (qB3 HB zh zi zj) hb
    (try clear hb)
    refine hK.out _ _ ⟨(blk_cell zg.out 0).trans rfl, (blk_cell zg.out 1).trans rfl, (blk_cell zg.out 2).trans rfl, (blk_cell ze.out 0).trans rfl, (blk_cell ze.out 1).trans rfl, (blk_cell ze.out 2).trans rfl⟩ (fun hHeld => ?_)
    clear hK K
    refine norm_ (a' := ?_) ?_ ?_
    rotate_left
    ·show Act.put _ (some 78) _ = _
     simp only [Act.put, sP, i64_w, i32_w]
     rfl
    refine pP (i := 18) (N := some 79) (bm 29 524287) rfl rfl HT_.out ?_
    refine pP (i := 19) (N := some 80) (bm 29 1048575) rfl rfl HT_.out ?_
    refine pP (i := 20) (N := some 81) (bm 29 2097151) rfl rfl HT_.out ?_
    refine pP (i := 22) (N := some 83) (bm 29 6291455) rfl rfl HT_.out ?_
    refine pP (i := 25) (N := some 86) (bm 29 39845887) rfl rfl HT_.out ?_
    refine pT (i := 21) (N := some 82) (bm 29 41943039) rfl rfl HT_.out HW_.out hHeld (by rintro w' ⟨s0, s1, s2, s3, s4, s5⟩; go_simp; with_reducible rfl) ?_
    refine pT (i := 24) (N := some 85) (bm 29 58720255) rfl rfl HT_.out HW_.out hHeld (by rintro w' ⟨s0, s1, s2, s3, s4, s5⟩; go_simp; with_reducible rfl) ?_
    refine one_ (i := 23) (N := some 84) (bm 29 67108863) rfl rfl (one_of HT_.out (by kernel_rfl)) (by decide) (fun K hK => ?_)
    refine goes_ Try.func34 (by kernel_rfl) rfl #[.agg #[.int .i64 zba, .slice zw zo.length zu, .slice zx zp.length zv], .int .i64 a2] (by rfl) rfl rfl pA ?_
    with_reducible refine (cells_Times.calls kj3 zba _ _ zo _ _ zp a2 zcv _ ?s1 ?s2 ?s3 ?s4 A50.out).mono ?_
    (case s1 => exact sR zat)
    (case s2 => exact sL zat)
    (case s3 => exact sR zau)
    (case s4 => exact sL zau)
    rintro e w60 ⟨rfl, hb⟩
    refine ⟨_, rfl, ?_⟩
    replace zat := bR zat hb
    replace zau := bR zau hb
    replace za6 := bR za6 hb
    replace za7 := bR za7 hb
    replace ze := bK ze hb
    replace zg := bK zg hb
    replace zf := bK zf hb
    replace HB := bS (qB3 HB zh zi zj) hb
    (try clear hb)
    refine hK.out _ _ ⟨(blk_cell zg.out 0).trans rfl, (blk_cell zg.out 1).trans rfl, (blk_cell zg.out 2).trans rfl, (blk_cell ze.out 0).trans rfl, (blk_cell ze.out 1).trans rfl, (blk_cell ze.out 2).trans rfl⟩ (fun hHeld => ?_)
    clear hK K
    refine norm_ (a' := ?_) ?_ ?_
    rotate_left
    ·show Act.put _ (some 84) _ = _
     simp only [Act.put, sP, i64_w, i32_w]
     rfl
    refine one_ (i := 26) (N := some 87) (bm 29 134217727) rfl rfl (one_of HT_.out (by kernel_rfl)) (by decide) (fun K hK => ?_)
    refine goes_ Try.func34 (by kernel_rfl) rfl #[.agg #[.int .i64 a0_0, .slice A0_1 l0_1.length c0_1, .slice A0_2 l0_2.length c0_2], .int .i64 a2] (by rfl) rfl rfl pA ?_
    with_reducible refine (cells_Times.calls kj3 a0_0 _ _ l0_1 _ _ l0_2 a2 zcw _ ?s1 ?s2 ?s3 ?s4 A51.out).mono ?_
    (case s1 => exact sC zal HB)
    (case s2 => exact zav.out)
    (case s3 => exact sC zaw HB)
    (case s4 => exact zax.out)
    rintro e w61 ⟨rfl, hb⟩
    refine ⟨_, rfl, ?_⟩
    replace zat := bR zat hb
    replace zau := bR zau hb
    replace za6 := bR za6 hb
    replace za7 := bR za7 hb
    replace ze := bK ze hb
    replace zg := bK zg hb
    replace zf := bK zf hb
    replace HB := bS (qB3 HB zh zi zj) hb
    (try clear hb)
    refine hK.out _ _ ⟨(blk_cell zg.out 0).trans rfl, (blk_cell zg.out 1).trans rfl, (blk_cell zg.out 2).trans rfl, (blk_cell ze.out 0).trans rfl, (blk_cell ze.out 1).trans rfl, (blk_cell ze.out 2).trans rfl⟩ (fun hHeld => ?_)
    clear hK K
    refine norm_ (a' := ?_) ?_ ?_
    rotate_left
    ·show Act.put _ (some 87) _ = _
     simp only [Act.put, sP, i64_w, i32_w]
     rfl
    refine pP (i := 27) (N := some 88) (bm 29 268435455) rfl rfl HT_.out ?_
    refine pP (i := 28) (N := some 89) (bm 29 536870911) rfl rfl HT_.out ?_
    refine done_ (done_of HT_.out (by kernel_rfl)) ?_
    try go_wp2
    go_meet
    case rel => exact ⟨_, H', ⟨by have := HJ3.out; first | omega | exact Nat.le_refl _⟩, ⟨by (with_reducible repeat (first | apply rA | apply rN | apply rD)); exact Kd.R_mono zat.out (fun _ hk => ⟨hk.1.1, ⟨hk.1.2, hk.2⟩⟩)⟩, ⟨by (with_reducible repeat (first | apply rA | apply rN | apply rD)); exact Kd.R_mono zau.out (fun _ hk => ⟨hk.1.1, ⟨hk.1.2, hk.2⟩⟩)⟩, ⟨by (with_reducible repeat (first | apply rA | apply rN | apply rD)); exact Kd.R_mono za6.out (fun _ hk => ⟨hk.1.2, ⟨hk.2, hk.1.1⟩⟩)⟩, ⟨by (with_reducible repeat (first | apply rA | apply rN | apply rD)); exact Kd.R_mono za7.out (fun _ hk => ⟨hk.1.2, ⟨hk.2, hk.1.1⟩⟩)⟩, ⟨pK ze.out⟩, ⟨pK zg.out⟩, ⟨pK zf.out⟩, ⟨qB3 HB zh zi zj⟩⟩
   case rest =>
    clear HC24
    try clear c1
    try clear c18
    try clear hcz25_0 hcz25_1 hcz25_2 hcz27_0 hcz27_1 hcz27_2 hcz31_0 hcz31_1 hcz31_2 hcz34_0 hcz34_1 hcz34_2 hcz39_0 hcz39_1 hcz39_2 hfz25_0 hfz25_1 hfz25_2 hfz27_0 hfz27_1 hfz27_2 hfz31_0 hfz31_1 hfz31_2 hfz34_0 hfz34_1 hfz34_2 hfz39_0 hfz39_1 hfz39_2
    obtain ⟨kq, HA, zdf, zc, zd, za, zb, ze, zg, zf, HB⟩ := hcut
    cases kq with
    | zero => exact absurd HA.out (by simp [gradinelaw23_CellsSame.j1])
    | succ zbd =>
     have H := HA.out
     clear HA
     simp only [gradinelaw23_CellsSame.j1] at H
     by_cases c62 : zc7 = 0
     rotate_left
     ·rw [if_neg c62] at H
      have c62b0 : (zc7 == 0) = false := beq_eq_false_iff_ne.mpr c62
      have c62b1 : (zc7 != 0) = true := bne_iff_ne.mpr c62
      obtain ⟨zbv, zdg⟩ : ∃ y_ : List Int, y_ = (([2] : List Int)) := ⟨_, rfl⟩
      replace H : (if zbv.length + l0_1.length < 17592186044416 then ((view_Expand.f zbd a0_0 l0_1 l0_2 (zbv ++ l0_1)).bind fun bt897 => (if za9 = true then (if bt897.2.2.2 = 0 then ((cells_Once.f zbd bt897.1 bt897.2.1 bt897.2.2.1).bind fun zc1 => (if zc1 = true then (some false) else ((gradinelaw23_same.f).bind fun zc2 => (some zc2)))) else ((gradinelaw23_same.f).bind fun zc3 => (some zc3))) else (some false))) else (none)) = some true := pH zdg H
      have zb1 := aM zdg
      clear zdg
      by_cases c130 : zbv.length + l0_1.length < 17592186044416
      rotate_left
      ·rw [if_neg c130] at H
       exact absurd H (by simp)

      rw [if_pos c130] at H
      have zbz := aM c130
      clear c130
      obtain ⟨za4, zdh⟩ : ∃ y_ : List Int, y_ = (zbv ++ l0_1) := ⟨_, rfl⟩
      replace H : ((view_Expand.f zbd a0_0 l0_1 l0_2 za4).bind fun bt897 => (if za9 = true then (if bt897.2.2.2 = 0 then ((cells_Once.f zbd bt897.1 bt897.2.1 bt897.2.2.1).bind fun zc1 => (if zc1 = true then (some false) else ((gradinelaw23_same.f).bind fun zc2 => (some zc2)))) else ((gradinelaw23_same.f).bind fun zc3 => (some zc3))) else (some false))) = some true := pH zdh H
      have zcn := aM zdh
      clear zdh
      replace H := Option.bind_eq_some_iff.mp H
      obtain ⟨⟨zbn, zbo, zbp, zbf⟩, zdq, H⟩ := H
      try dsimp only at H
      have zcz := aM zdq
      clear zdq
      by_cases c132 : za9 = true
      rotate_left
      ·replace c132 := Bool.eq_false_iff.mpr c132
       subst c132
       rw [if_neg (show ¬ (false = true) by decide)] at H
       exact absurd H (by simp)
      subst c132
      rw [if_pos rfl] at H
      by_cases c133 : zbf = 0
      rotate_left
      ·rw [if_neg c133] at H
       have c133b0 : (zbf == 0) = false := beq_eq_false_iff_ne.mpr c133
       have c133b1 : (zbf != 0) = true := bne_iff_ne.mpr c133
       replace H := Option.bind_eq_some_iff.mp H
       obtain ⟨zc3, zdr, H⟩ := H
       try dsimp only at H
       have A156 := aM zdr
       clear zdr
       have hv_ := aM (Option.some.inj H)
       clear H
       try go_wp2
       replace zc := aM (Kd.R_drew zc.out)
       replace zd := aM (Kd.R_drew zd.out)
       replace za := aM (Kd.R_drew za.out)
       replace zb := aM (Kd.R_drew zb.out)
       replace ze := aM (blk_drew ze.out)
       replace zg := aM (blk_drew zg.out)
       replace zf := aM (blk_drew zf.out)
       replace HB := aM (below_drew1 HB.out)
       refine start_ (n := 12) (S := fun w' => w'.cell? ⟨zy, 0, none⟩ = some (.int .i64 a0_0) ∧ w'.cell? ⟨zy, 1, none⟩ = some (.slice A0_1 l0_1.length c0_1) ∧ w'.cell? ⟨zy, 2, none⟩ = some (.slice A0_2 l0_2.length c0_2)) (ds := []) (bm 12 0) (by kernel_rfl) rfl rfl (h3 ze) (fun hHeld => ?_); refine with_tabW gradinelaw23_CellsSame.tab14 gradinelaw23_CellsSame.bits14 (fun HT_ HW_ => ?_)
       generalize wc.drew = w157 at zc zd za zb ze zg zf HB hHeld ⊢
       refine pP (i := 2) (N := some 130) (bm 12 4) rfl rfl HT_.out ?_
       refine pT (i := 0) (N := some 128) (bm 12 5) rfl rfl HT_.out HW_.out hHeld (by rintro w' ⟨s0, s1, s2⟩; go_simp; with_reducible rfl) ?_
       refine pT (i := 3) (N := some 131) (bm 12 13) rfl rfl HT_.out HW_.out hHeld (by rintro w' ⟨s0, s1, s2⟩; go_simp; with_reducible rfl) ?_
       refine join_ (σ := Value × Value × Value × Value × Nat) 2 (bm 12 1023) (fun s_ => [(129, s_.1), (132, s_.2.1), (133, .tuple #[.agg #[.int .i64 zbn, s_.2.2.1, s_.2.2.2.1], .int .i64 zbf]), (20, .pointer (some ⟨s_.2.2.2.2, 0, none⟩)), (127, .tuple #[.agg #[.int .i64 zbn, s_.2.2.1, s_.2.2.2.1], .int .i64 zbf]), (134, .agg #[.int .i64 zbn, s_.2.2.1, s_.2.2.2.1]), (135, .int .i64 zbf)]) (fun s_ w' => (w'.cell? ⟨zy, 0, none⟩ = some (.int .i64 a0_0) ∧ w'.cell? ⟨zy, 1, none⟩ = some (.slice A0_1 l0_1.length c0_1) ∧ w'.cell? ⟨zy, 2, none⟩ = some (.slice A0_2 l0_2.length c0_2)) ∧ (Kd.R (Kd.int .i64) 3 w' w.heap.size (fun k_ => some k_ ≠ (s_.2.2.1 : Value).ownBlock ∧ some k_ ≠ (s_.2.2.2.1 : Value).ownBlock ∧ some k_ ≠ (.slice zw zo.length zu : Value).ownBlock ∧ some k_ ≠ (.slice zx zp.length zv : Value).ownBlock ∧ some k_ ≠ (.slice zq zm.length zr : Value).ownBlock ∧ some k_ ≠ (.slice zs zn.length zt : Value).ownBlock) s_.2.1 za4) ∧ (Kd.R (Kd.int .i64) 3 w' w.heap.size (fun k_ => some k_ ≠ (s_.2.1 : Value).ownBlock ∧ some k_ ≠ (s_.2.2.2.1 : Value).ownBlock ∧ some k_ ≠ (.slice zw zo.length zu : Value).ownBlock ∧ some k_ ≠ (.slice zx zp.length zv : Value).ownBlock ∧ some k_ ≠ (.slice zq zm.length zr : Value).ownBlock ∧ some k_ ≠ (.slice zs zn.length zt : Value).ownBlock) s_.2.2.1 zbo) ∧ (Kd.R (Kd.int .i64) 3 w' w.heap.size (fun k_ => some k_ ≠ (s_.2.1 : Value).ownBlock ∧ some k_ ≠ (s_.2.2.1 : Value).ownBlock ∧ some k_ ≠ (.slice zw zo.length zu : Value).ownBlock ∧ some k_ ≠ (.slice zx zp.length zv : Value).ownBlock ∧ some k_ ≠ (.slice zq zm.length zr : Value).ownBlock ∧ some k_ ≠ (.slice zs zn.length zt : Value).ownBlock) s_.2.2.2.1 zbp) ∧ (Kd.R (Kd.int .i64) 3 w' w.heap.size (fun k_ => some k_ ≠ (s_.2.1 : Value).ownBlock ∧ some k_ ≠ (s_.2.2.1 : Value).ownBlock ∧ some k_ ≠ (s_.2.2.2.1 : Value).ownBlock ∧ some k_ ≠ (.slice zx zp.length zv : Value).ownBlock ∧ some k_ ≠ (.slice zq zm.length zr : Value).ownBlock ∧ some k_ ≠ (.slice zs zn.length zt : Value).ownBlock) (.slice zw zo.length zu) zo) ∧ (Kd.R (Kd.int .i64) 3 w' w.heap.size (fun k_ => some k_ ≠ (s_.2.1 : Value).ownBlock ∧ some k_ ≠ (s_.2.2.1 : Value).ownBlock ∧ some k_ ≠ (s_.2.2.2.1 : Value).ownBlock ∧ some k_ ≠ (.slice zw zo.length zu : Value).ownBlock ∧ some k_ ≠ (.slice zq zm.length zr : Value).ownBlock ∧ some k_ ≠ (.slice zs zn.length zt : Value).ownBlock) (.slice zx zp.length zv) zp) ∧ (Kd.R (Kd.int .i64) 3 w' w.heap.size (fun k_ => some k_ ≠ (s_.2.1 : Value).ownBlock ∧ some k_ ≠ (s_.2.2.1 : Value).ownBlock ∧ some k_ ≠ (s_.2.2.2.1 : Value).ownBlock ∧ some k_ ≠ (.slice zw zo.length zu : Value).ownBlock ∧ some k_ ≠ (.slice zx zp.length zv : Value).ownBlock ∧ some k_ ≠ (.slice zs zn.length zt : Value).ownBlock) (.slice zq zm.length zr) zm) ∧ (Kd.R (Kd.int .i64) 3 w' w.heap.size (fun k_ => some k_ ≠ (s_.2.1 : Value).ownBlock ∧ some k_ ≠ (s_.2.2.1 : Value).ownBlock ∧ some k_ ≠ (s_.2.2.2.1 : Value).ownBlock ∧ some k_ ≠ (.slice zw zo.length zu : Value).ownBlock ∧ some k_ ≠ (.slice zx zp.length zv : Value).ownBlock ∧ some k_ ≠ (.slice zq zm.length zr : Value).ownBlock) (.slice zs zn.length zt) zn) ∧ (w'.heap[zy]? = some (.cells #[.int .i64 a0_0, .slice A0_1 l0_1.length c0_1, .slice A0_2 l0_2.length c0_2] 24 (0, 0))) ∧ (w'.heap[zai]? = some (.cells #[.int .i64 zba, .slice zw zo.length zu, .slice zx zp.length zv] 24 (0, 0))) ∧ (w'.heap[zah]? = some (.cells #[.int .i64 za8, .slice zq zm.length zr, .slice zs zn.length zt] 24 (0, 0))) ∧ (w'.heap[s_.2.2.2.2]? = some (.cells #[.int .i64 0, .slice none 0 0, .slice none 0 0] 24 (0, 0))) ∧ (w.heap.size ≤ s_.2.2.2.2) ∧ (w.heap.size ≤ s_.2.2.2.2) ∧ (zy ≠ s_.2.2.2.2) ∧ (s_.2.2.2.2 ≠ zy) ∧ (zai ≠ s_.2.2.2.2) ∧ (s_.2.2.2.2 ≠ zai) ∧ (zah ≠ s_.2.2.2.2) ∧ (s_.2.2.2.2 ≠ zah) ∧ (Below w.heap.size w w')) ?_ ?_
       rotate_left
       ·intro hCont
        refine two_ (i := 1) (j := 9) (Ni := some 129) (Nj := some 20) (bm 12 15) (bm 12 525) rfl rfl rfl rfl (two_of HT_.out (by kernel_rfl)) (by decide) (by decide) (fun K hK => ?_) (fun K hK => ?_)
        ·skip
         refine Kd.R_lit_step (Kd.int .i64) _ 3 ?hg (N := 129) ?hd (xs := ([2] : List Int)) (inner := [.int .i64 2]) (ok := fun _ => True) (okp := fun _ => True) ?hr ?hp (fun _ hk => hk) trivial (Below.refl _ _) (Nat.le_refl _) (by simp) ?_; (case hd => rfl); (case hg => rfl); (case hr => first | (go_simp; done) | (go_simp; rfl)); (case hp => exact (Reps.one (show Kd.M (Kd.int .i64) _ _ _ 2 [.int .i64 2] from rfl) (Reps.none _ _)))
         intro zbg w158 ho159 hb hg_ hnew_
         clear hg_ hnew_
         (first | rw [← zb1.out] at ho159 | (simp only [Int.reduceToNat] at ho159; rw [← zb1.out] at ho159))
         have zaj := aM (Kd.R_lower (Kd.R_new' (Kd.R_new' (Kd.R_new' (Kd.R_new' ho159 (Kd.R_lt (pR zc.out))) (Kd.R_lt (pR zd.out))) (Kd.R_lt (pR za.out))) (Kd.R_lt (pR zb.out))) (below_size (qB3 HB zh zi zj)))
         replace zc := eR zc ho159 hb
         replace zd := eR zd ho159 hb
         replace za := eR za ho159 hb
         replace zb := eR zb ho159 hb
         replace ze := bK ze hb
         replace zg := bK zg hb
         replace zf := bK zf hb
         replace HB := bS (qB3 HB zh zi zj) hb
         clear hb ho159
         refine hK.out _ _ (h3 ze) (fun hHeld => ?_)
         clear hK K
         refine norm_ (a' := ?_) ?_ ?_
         rotate_left
         ·show Act.put _ (some 129) _ = _
          simp only [Act.put, sP, i64_w, i32_w]
          rfl
         refine two_ (i := 4) (j := 9) (Ni := some 132) (Nj := some 20) (bm 12 31) (bm 12 527) rfl rfl rfl rfl (two_of HT_.out (by kernel_rfl)) (by decide) (by decide) (fun K hK => ?_) (fun K hK => ?_)
         ·skip
          refine Kd.R_append_rows_step (Kd.int .i64) (w0 := w) w.heap.size (by rfl) (.tmp 129) (.tmp 131) 22 3 (.int .i64 0) 8 rfl Try.underlying22 info3 rfl (by decide) (by omega) zbg zbv l0_1 _ _ _ (fun k_ => some k_ ≠ (.slice zw zo.length zu : Value).ownBlock ∧ some k_ ≠ (.slice zx zp.length zv : Value).ownBlock ∧ some k_ ≠ (.slice zq zm.length zr : Value).ownBlock ∧ some k_ ≠ (.slice zs zn.length zt : Value).ownBlock) (fun _ => False) rfl rfl ?aO ?aR (fun _ _ h => h) (fun _ h => h.elim) ?aF ?aB ?aS ?aL ?_
          (case aR => exact sC zal HB)
          (case aB => exact (qB3 HB zh zi zj))
          (case aF => exact (fun k_ hk => ⟨Kd.fresh' (Kd.R_lt (pR zc.out)) k_ hk, Kd.fresh' (Kd.R_lt (pR zd.out)) k_ hk, Kd.fresh' (Kd.R_lt (pR za.out)) k_ hk, Kd.fresh' (Kd.R_lt (pR zb.out)) k_ hk⟩))
          (case aO => exact (by (with_reducible repeat (first | apply rA | apply rN | apply rD)); exact Kd.R_mono zaj.out (fun _ hk => ⟨hk.1.1.1.2, ⟨hk.1.1.2, ⟨hk.1.2, hk.2⟩⟩⟩)))
          (case aS => exact (below_size (qB3 HB zh zi zj)))
          (case aL => have := zbz.out; omega)
          intro zbb w160 ho hb hg hat
          rw [← zcn.out] at ho
          replace zc := aM (Kd.R_after (ok := (fun k_ => some k_ ≠ (.slice zx zp.length zv : Value).ownBlock ∧ some k_ ≠ (.slice zq zm.length zr : Value).ownBlock ∧ some k_ ≠ (.slice zs zn.length zt : Value).ownBlock)) (pR zc.out) hg hat)
          replace zd := aM (Kd.R_after (ok := (fun k_ => some k_ ≠ (.slice zw zo.length zu : Value).ownBlock ∧ some k_ ≠ (.slice zq zm.length zr : Value).ownBlock ∧ some k_ ≠ (.slice zs zn.length zt : Value).ownBlock)) (pR zd.out) hg hat)
          replace za := aM (Kd.R_after (ok := (fun k_ => some k_ ≠ (.slice zw zo.length zu : Value).ownBlock ∧ some k_ ≠ (.slice zx zp.length zv : Value).ownBlock ∧ some k_ ≠ (.slice zs zn.length zt : Value).ownBlock)) (pR za.out) hg hat)
          replace zb := aM (Kd.R_after (ok := (fun k_ => some k_ ≠ (.slice zw zo.length zu : Value).ownBlock ∧ some k_ ≠ (.slice zx zp.length zv : Value).ownBlock ∧ some k_ ≠ (.slice zq zm.length zr : Value).ownBlock)) (pR zb.out) hg hat)
          replace ze := aM (blk_grown (g := zy) (pK ze.out) hg (Kd.R_ne zaj.out ze.out (by decide)))
          replace zg := aM (blk_grown (g := zai) (pK zg.out) hg (Kd.R_ne zaj.out zg.out (by decide)))
          replace zf := aM (blk_grown (g := zah) (pK zf.out) hg (Kd.R_ne zaj.out zf.out (by decide)))
          replace HB := aM (hb)
          have zz := aM (ho)
          clear zaj
          clear ho hb hg hat
          obtain ⟨zds, zdt, zdu⟩ := Kd.R_slice zz.out
          (first | subst zdu | (injection zdu with f1_ f2_ f3_; have f4_ := f1_.symm; have f5_ := f3_.symm; clear f1_ f2_ f3_; subst f4_; subst f5_))
          refine hK.out _ _ (h3 ze) (fun hHeld => ?_)
          clear hK K
          refine norm_ (a' := ?_) ?_ ?_
          rotate_left
          ·show Act.put _ (some 132) _ = _
           simp only [Act.put, sP, i64_w, i32_w]
           rfl
          refine two_ (i := 5) (j := 9) (Ni := some 133) (Nj := some 20) (bm 12 63) (bm 12 543) rfl rfl rfl rfl (two_of HT_.out (by kernel_rfl)) (by decide) (by decide) (fun K hK => ?_) (fun K hK => ?_)
          ·skip
           refine goes_ Try.func36 (by kernel_rfl) rfl #[.agg #[.int .i64 a0_0, .slice A0_1 l0_1.length c0_1, .slice A0_2 l0_2.length c0_2], .slice zds za4.length zdt] (by rfl) rfl rfl pA ?_
           with_reducible refine (view_Expand.calls zbd a0_0 _ _ l0_1 _ _ l0_2 _ _ za4 zbn zbo zbp zbf _ ?s1 ?s2 ?s3 ?s4 ?s5 ?s6 zcz.out).mono ?_
           (case s1 => exact sC zal HB)
           (case s2 => exact zav.out)
           (case s3 => exact sC zaw HB)
           (case s4 => exact zax.out)
           (case s5 => exact sR zz)
           (case s6 => exact sL zz)
           rintro e w162 ⟨za0, za1, rfl, ho0, ho1, hb⟩
           refine ⟨_, rfl, ?_⟩
           have zan := aM (Kd.R_lower (Kd.R_new' (Kd.R_new' (Kd.R_new' (Kd.R_new' (Kd.R_new' ho0 (Kd.R_lt (pR zc.out))) (Kd.R_lt (pR zd.out))) (Kd.R_lt (pR za.out))) (Kd.R_lt (pR zb.out))) (Kd.R_lt (pR zz.out))) (below_size (qB3 HB zh zi zj)))
           have zao := aM (Kd.R_lower (Kd.R_new' (Kd.R_new' (Kd.R_new' (Kd.R_new' (Kd.R_new' ho1 (Kd.R_lt (pR zc.out))) (Kd.R_lt (pR zd.out))) (Kd.R_lt (pR za.out))) (Kd.R_lt (pR zb.out))) (Kd.R_lt (pR zz.out))) (below_size (qB3 HB zh zi zj)))
           replace zc := eR2 zc ho0 ho1 hb
           replace zd := eR2 zd ho0 ho1 hb
           replace za := eR2 za ho0 ho1 hb
           replace zb := eR2 zb ho0 ho1 hb
           replace zz := eR2 zz ho0 ho1 hb
           replace ze := bK ze hb
           replace zg := bK zg hb
           replace zf := bK zf hb
           replace HB := bS (qB3 HB zh zi zj) hb
           (try clear hb)
           (try clear hk)
           (try clear ho0)
           (try clear ho1)
           refine hK.out _ _ (h3 ze) (fun hHeld => ?_)
           clear hK K
           refine norm_ (a' := ?_) ?_ ?_
           rotate_left
           ·show Act.put _ (some 133) _ = _
            simp only [Act.put, sP, i64_w, i32_w]
            rfl
           refine pP (i := 6) (N := some 127) (bm 12 127) rfl rfl HT_.out ?_
           refine pP (i := 7) (N := some 134) (bm 12 255) rfl rfl HT_.out ?_
           refine pP (i := 8) (N := some 135) (bm 12 511) rfl rfl HT_.out ?_
           refine one_ (i := 9) (N := some 20) (bm 12 1023) rfl rfl (one_of HT_.out (by kernel_rfl)) (by decide) (fun K hK => ?_)
           refine box_step ?hg (N := 20) ?hd (cs := #[.int .i64 0, .slice none 0 0, .slice none 0 0]) (t := 24) ?hr ?_; (case hd => rfl); (case hg => rfl); (case hr => first | (go_simp; done) | (go_simp; rfl))
           intro z3 hg zek hbox hb
           replace zc := bR zc hb
           replace zd := bR zd hb
           replace za := bR za hb
           replace zb := bR zb hb
           replace zz := bR zz hb
           replace zan := bR zan hb
           replace zao := bR zao hb
           have z1 := aM (hbox)
           have zay := gE (w := w) hg (qB3 HB zh zi zj)
           have z9 := zay
           replace HB := bS (qB3 HB zh zi zj) hb
           have zk := nL hg ze
           have zab := nG hg ze
           replace ze := bK ze hb
           have z5 := nL hg zg
           have zac := nG hg zg
           replace zg := bK zg hb
           have z6 := nL hg zf
           have zad := nG hg zf
           replace zf := bK zf hb
           clear hb hbox hg
           refine hK.out _ _ (h3 ze) (fun hHeld => ?_)
           clear hK K
           refine norm_ (a' := ?_) ?_ ?_
           rotate_left
           ·show Act.put _ (some 20) _ = _
            simp only [Act.put, sP, i64_w, i32_w]
            rfl
           exact norm_ (by simp only [putAll, Act.put, sP]) (hCont (zbg, .slice zds za4.length zdt, za0, za1, z3) _ ⟨hHeld, (by (with_reducible repeat (first | apply rA | apply rN | apply rD)); exact Kd.R_mono zz.out (fun _ hk => ⟨hk.1.2, ⟨hk.2, ⟨hk.1.1.1, ⟨hk.1.1.2.1, ⟨hk.1.1.2.2.1, hk.1.1.2.2.2⟩⟩⟩⟩⟩)), (by (with_reducible repeat (first | apply rA | apply rN | apply rD)); exact Kd.R_mono zan.out (fun _ hk => ⟨hk.2, ⟨hk.1.1.1.1.1, ⟨hk.1.1.1.1.2, ⟨hk.1.1.1.2, ⟨hk.1.1.2, hk.1.2⟩⟩⟩⟩⟩)), (by (with_reducible repeat (first | apply rA | apply rN | apply rD)); exact Kd.R_mono zao.out (fun _ hk => ⟨hk.2, ⟨hk.1.1.1.1.1, ⟨hk.1.1.1.1.2, ⟨hk.1.1.1.2, ⟨hk.1.1.2, hk.1.2⟩⟩⟩⟩⟩)), (by (with_reducible repeat (first | apply rA | apply rN | apply rD)); exact Kd.R_mono zc.out (fun _ hk => ⟨hk.1.1.2, ⟨hk.1.2, ⟨hk.2, ⟨hk.1.1.1.1, ⟨hk.1.1.1.2.1, hk.1.1.1.2.2⟩⟩⟩⟩⟩)), (by (with_reducible repeat (first | apply rA | apply rN | apply rD)); exact Kd.R_mono zd.out (fun _ hk => ⟨hk.1.1.2, ⟨hk.1.2, ⟨hk.2, ⟨hk.1.1.1.1, ⟨hk.1.1.1.2.1, hk.1.1.1.2.2⟩⟩⟩⟩⟩)), (by (with_reducible repeat (first | apply rA | apply rN | apply rD)); exact Kd.R_mono za.out (fun _ hk => ⟨hk.1.1.2, ⟨hk.1.2, ⟨hk.2, ⟨hk.1.1.1.1, ⟨hk.1.1.1.2.1, hk.1.1.1.2.2⟩⟩⟩⟩⟩)), (by (with_reducible repeat (first | apply rA | apply rN | apply rD)); exact Kd.R_mono zb.out (fun _ hk => ⟨hk.1.1.2, ⟨hk.1.2, ⟨hk.2, ⟨hk.1.1.1.1, ⟨hk.1.1.1.2.1, hk.1.1.1.2.2⟩⟩⟩⟩⟩)), (pK ze.out), (pK zg.out), (pK zf.out), (pK z1.out), zay.out, z9.out, zk.out, zab.out, z5.out, zac.out, z6.out, zad.out, (qB4 HB zh zi zj z9)⟩)
          ·skip
           refine box_step ?hg (N := 20) ?hd (cs := #[.int .i64 0, .slice none 0 0, .slice none 0 0]) (t := 24) ?hr ?_; (case hd => rfl); (case hg => rfl); (case hr => first | (go_simp; done) | (go_simp; rfl))
           intro z3 hg zey hbox hb
           replace zc := bR zc hb
           replace zd := bR zd hb
           replace za := bR za hb
           replace zb := bR zb hb
           replace zz := bR zz hb
           have z1 := aM (hbox)
           have zay := gE (w := w) hg (qB3 HB zh zi zj)
           have z9 := zay
           replace HB := bS (qB3 HB zh zi zj) hb
           have zk := nL hg ze
           have zab := nG hg ze
           replace ze := bK ze hb
           have z5 := nL hg zg
           have zac := nG hg zg
           replace zg := bK zg hb
           have z6 := nL hg zf
           have zad := nG hg zf
           replace zf := bK zf hb
           clear hb hbox hg
           obtain ⟨zb2, zb3, zb4⟩ := Kd.R_slice zz.out
           (first | subst zb4 | (injection zb4 with f1_ f2_ f3_; have f4_ := f1_.symm; have f5_ := f3_.symm; clear f1_ f2_ f3_; subst f4_; subst f5_))
           refine hK.out _ _ (h3 ze) (fun hHeld => ?_)
           clear hK K
           refine norm_ (a' := ?_) ?_ ?_
           rotate_left
           ·show Act.put _ (some 20) _ = _
            simp only [Act.put, sP, i64_w, i32_w]
            rfl
           refine one_ (i := 5) (N := some 133) (bm 12 575) rfl rfl (one_of HT_.out (by kernel_rfl)) (by decide) (fun K hK => ?_)
           refine goes_ Try.func36 (by kernel_rfl) rfl #[.agg #[.int .i64 a0_0, .slice A0_1 l0_1.length c0_1, .slice A0_2 l0_2.length c0_2], .slice zb2 za4.length zb3] (by rfl) rfl rfl pA ?_
           with_reducible refine (view_Expand.calls zbd a0_0 _ _ l0_1 _ _ l0_2 _ _ za4 zbn zbo zbp zbf _ ?s1 ?s2 ?s3 ?s4 ?s5 ?s6 zcz.out).mono ?_
           (case s1 => exact sC zal HB)
           (case s2 => exact zav.out)
           (case s3 => exact sC zaw HB)
           (case s4 => exact zax.out)
           (case s5 => exact sR zz)
           (case s6 => exact sL zz)
           rintro e zek ⟨za0, za1, rfl, ho0, ho1, hb⟩
           refine ⟨_, rfl, ?_⟩
           have zan := aM (Kd.R_lower (Kd.R_new' (Kd.R_new' (Kd.R_new' (Kd.R_new' (Kd.R_new' ho0 (Kd.R_lt (pR zc.out))) (Kd.R_lt (pR zd.out))) (Kd.R_lt (pR za.out))) (Kd.R_lt (pR zb.out))) (Kd.R_lt (pR zz.out))) (below_size (qB4 HB zh zi zj z9)))
           have zao := aM (Kd.R_lower (Kd.R_new' (Kd.R_new' (Kd.R_new' (Kd.R_new' (Kd.R_new' ho1 (Kd.R_lt (pR zc.out))) (Kd.R_lt (pR zd.out))) (Kd.R_lt (pR za.out))) (Kd.R_lt (pR zb.out))) (Kd.R_lt (pR zz.out))) (below_size (qB4 HB zh zi zj z9)))
           replace zc := eR2 zc ho0 ho1 hb
           replace zd := eR2 zd ho0 ho1 hb
           replace za := eR2 za ho0 ho1 hb
           replace zb := eR2 zb ho0 ho1 hb
           replace zz := eR2 zz ho0 ho1 hb
           replace ze := bK ze hb
           replace zg := bK zg hb
           replace zf := bK zf hb
           replace z1 := bK z1 hb
           replace HB := bS (qB4 HB zh zi zj z9) hb
           (try clear hb)
           (try clear ho0)
           (try clear ho1)
           refine hK.out _ _ (h3 ze) (fun hHeld => ?_)
           clear hK K
           refine norm_ (a' := ?_) ?_ ?_
           rotate_left
           ·show Act.put _ (some 133) _ = _
            simp only [Act.put, sP, i64_w, i32_w]
            rfl
           refine pP (i := 6) (N := some 127) (bm 12 639) rfl rfl HT_.out ?_
           refine pP (i := 7) (N := some 134) (bm 12 767) rfl rfl HT_.out ?_
           refine pP (i := 8) (N := some 135) (bm 12 1023) rfl rfl HT_.out ?_
           exact norm_ (by simp only [putAll, Act.put, sP]) (hCont (zbg, .slice zb2 za4.length zb3, za0, za1, z3) _ ⟨hHeld, (by (with_reducible repeat (first | apply rA | apply rN | apply rD)); exact Kd.R_mono zz.out (fun _ hk => ⟨hk.1.2, ⟨hk.2, ⟨hk.1.1.1, ⟨hk.1.1.2.1, ⟨hk.1.1.2.2.1, hk.1.1.2.2.2⟩⟩⟩⟩⟩)), (by (with_reducible repeat (first | apply rA | apply rN | apply rD)); exact Kd.R_mono zan.out (fun _ hk => ⟨hk.2, ⟨hk.1.1.1.1.1, ⟨hk.1.1.1.1.2, ⟨hk.1.1.1.2, ⟨hk.1.1.2, hk.1.2⟩⟩⟩⟩⟩)), (by (with_reducible repeat (first | apply rA | apply rN | apply rD)); exact Kd.R_mono zao.out (fun _ hk => ⟨hk.2, ⟨hk.1.1.1.1.1, ⟨hk.1.1.1.1.2, ⟨hk.1.1.1.2, ⟨hk.1.1.2, hk.1.2⟩⟩⟩⟩⟩)), (by (with_reducible repeat (first | apply rA | apply rN | apply rD)); exact Kd.R_mono zc.out (fun _ hk => ⟨hk.1.1.2, ⟨hk.1.2, ⟨hk.2, ⟨hk.1.1.1.1, ⟨hk.1.1.1.2.1, hk.1.1.1.2.2⟩⟩⟩⟩⟩)), (by (with_reducible repeat (first | apply rA | apply rN | apply rD)); exact Kd.R_mono zd.out (fun _ hk => ⟨hk.1.1.2, ⟨hk.1.2, ⟨hk.2, ⟨hk.1.1.1.1, ⟨hk.1.1.1.2.1, hk.1.1.1.2.2⟩⟩⟩⟩⟩)), (by (with_reducible repeat (first | apply rA | apply rN | apply rD)); exact Kd.R_mono za.out (fun _ hk => ⟨hk.1.1.2, ⟨hk.1.2, ⟨hk.2, ⟨hk.1.1.1.1, ⟨hk.1.1.1.2.1, hk.1.1.1.2.2⟩⟩⟩⟩⟩)), (by (with_reducible repeat (first | apply rA | apply rN | apply rD)); exact Kd.R_mono zb.out (fun _ hk => ⟨hk.1.1.2, ⟨hk.1.2, ⟨hk.2, ⟨hk.1.1.1.1, ⟨hk.1.1.1.2.1, hk.1.1.1.2.2⟩⟩⟩⟩⟩)), (pK ze.out), (pK zg.out), (pK zf.out), (pK z1.out), zay.out, z9.out, zk.out, zab.out, z5.out, zac.out, z6.out, zad.out, (qB4 HB zh zi zj z9)⟩)
         ·skip
          refine box_step ?hg (N := 20) ?hd (cs := #[.int .i64 0, .slice none 0 0, .slice none 0 0]) (t := 24) ?hr ?_; (case hd => rfl); (case hg => rfl); (case hr => first | (go_simp; done) | (go_simp; rfl))
          intro z3 hg w160 hbox hb
          replace zc := bR zc hb
          replace zd := bR zd hb
          replace za := bR za hb
          replace zb := bR zb hb
          replace zaj := bR zaj hb
          have z1 := aM (hbox)
          have zay := gE (w := w) hg (qB3 HB zh zi zj)
          have z9 := zay
          replace HB := bS (qB3 HB zh zi zj) hb
          have zk := nL hg ze
          have zab := nG hg ze
          replace ze := bK ze hb
          have z5 := nL hg zg
          have zac := nG hg zg
          replace zg := bK zg hb
          have z6 := nL hg zf
          have zad := nG hg zf
          replace zf := bK zf hb
          clear hb hbox hg
          refine hK.out _ _ (h3 ze) (fun hHeld => ?_)
          clear hK K
          refine norm_ (a' := ?_) ?_ ?_
          rotate_left
          ·show Act.put _ (some 20) _ = _
           simp only [Act.put, sP, i64_w, i32_w]
           rfl
          refine one_ (i := 4) (N := some 132) (bm 12 543) rfl rfl (one_of HT_.out (by kernel_rfl)) (by decide) (fun K hK => ?_)
          refine Kd.R_append_rows_step (Kd.int .i64) (w0 := w) w.heap.size (by rfl) (.tmp 129) (.tmp 131) 22 3 (.int .i64 0) 8 rfl Try.underlying22 info3 rfl (by decide) (by omega) zbg zbv l0_1 _ _ _ (fun k_ => some k_ ≠ (.slice zw zo.length zu : Value).ownBlock ∧ some k_ ≠ (.slice zx zp.length zv : Value).ownBlock ∧ some k_ ≠ (.slice zq zm.length zr : Value).ownBlock ∧ some k_ ≠ (.slice zs zn.length zt : Value).ownBlock) (fun _ => False) rfl rfl ?aO ?aR (fun _ _ h => h) (fun _ h => h.elim) ?aF ?aB ?aS ?aL ?_
          (case aR => exact sC zal HB)
          (case aB => exact (qB4 HB zh zi zj z9))
          (case aF => exact (fun k_ hk => ⟨Kd.fresh' (Kd.R_lt (pR zc.out)) k_ hk, Kd.fresh' (Kd.R_lt (pR zd.out)) k_ hk, Kd.fresh' (Kd.R_lt (pR za.out)) k_ hk, Kd.fresh' (Kd.R_lt (pR zb.out)) k_ hk⟩))
          (case aO => exact (by (with_reducible repeat (first | apply rA | apply rN | apply rD)); exact Kd.R_mono zaj.out (fun _ hk => ⟨hk.1.1.1.2, ⟨hk.1.1.2, ⟨hk.1.2, hk.2⟩⟩⟩)))
          (case aS => exact (below_size (qB4 HB zh zi zj z9)))
          (case aL => have := zbz.out; omega)
          intro zbb zey ho hb hg hat
          rw [← zcn.out] at ho
          replace zc := aM (Kd.R_after (ok := (fun k_ => some k_ ≠ (.slice zx zp.length zv : Value).ownBlock ∧ some k_ ≠ (.slice zq zm.length zr : Value).ownBlock ∧ some k_ ≠ (.slice zs zn.length zt : Value).ownBlock)) (pR zc.out) hg hat)
          replace zd := aM (Kd.R_after (ok := (fun k_ => some k_ ≠ (.slice zw zo.length zu : Value).ownBlock ∧ some k_ ≠ (.slice zq zm.length zr : Value).ownBlock ∧ some k_ ≠ (.slice zs zn.length zt : Value).ownBlock)) (pR zd.out) hg hat)
          replace za := aM (Kd.R_after (ok := (fun k_ => some k_ ≠ (.slice zw zo.length zu : Value).ownBlock ∧ some k_ ≠ (.slice zx zp.length zv : Value).ownBlock ∧ some k_ ≠ (.slice zs zn.length zt : Value).ownBlock)) (pR za.out) hg hat)
          replace zb := aM (Kd.R_after (ok := (fun k_ => some k_ ≠ (.slice zw zo.length zu : Value).ownBlock ∧ some k_ ≠ (.slice zx zp.length zv : Value).ownBlock ∧ some k_ ≠ (.slice zq zm.length zr : Value).ownBlock)) (pR zb.out) hg hat)
          replace ze := aM (blk_grown (g := zy) (pK ze.out) hg (Kd.R_ne zaj.out ze.out (by decide)))
          replace zg := aM (blk_grown (g := zai) (pK zg.out) hg (Kd.R_ne zaj.out zg.out (by decide)))
          replace zf := aM (blk_grown (g := zah) (pK zf.out) hg (Kd.R_ne zaj.out zf.out (by decide)))
          replace z1 := aM (blk_grown (g := z3) (pK z1.out) hg (Kd.R_ne zaj.out z1.out (by decide)))
          replace HB := aM (hb)
          have zz := aM (ho)
          clear zaj
          clear ho hb hg hat
          obtain ⟨zb2, zb3, zb4⟩ := Kd.R_slice zz.out
          (first | subst zb4 | (injection zb4 with f1_ f2_ f3_; have f4_ := f1_.symm; have f5_ := f3_.symm; clear f1_ f2_ f3_; subst f4_; subst f5_))
          refine hK.out _ _ (h3 ze) (fun hHeld => ?_)
          clear hK K
          refine norm_ (a' := ?_) ?_ ?_
          rotate_left
          ·show Act.put _ (some 132) _ = _
           simp only [Act.put, sP, i64_w, i32_w]
           rfl
          refine one_ (i := 5) (N := some 133) (bm 12 575) rfl rfl (one_of HT_.out (by kernel_rfl)) (by decide) (fun K hK => ?_)
          refine goes_ Try.func36 (by kernel_rfl) rfl #[.agg #[.int .i64 a0_0, .slice A0_1 l0_1.length c0_1, .slice A0_2 l0_2.length c0_2], .slice zb2 za4.length zb3] (by rfl) rfl rfl pA ?_
          with_reducible refine (view_Expand.calls zbd a0_0 _ _ l0_1 _ _ l0_2 _ _ za4 zbn zbo zbp zbf _ ?s1 ?s2 ?s3 ?s4 ?s5 ?s6 zcz.out).mono ?_
          (case s1 => exact sC zal HB)
          (case s2 => exact zav.out)
          (case s3 => exact sC zaw HB)
          (case s4 => exact zax.out)
          (case s5 => exact sR zz)
          (case s6 => exact sL zz)
          rintro e zek ⟨za0, za1, rfl, ho0, ho1, hb⟩
          refine ⟨_, rfl, ?_⟩
          have zan := aM (Kd.R_lower (Kd.R_new' (Kd.R_new' (Kd.R_new' (Kd.R_new' (Kd.R_new' ho0 (Kd.R_lt (pR zc.out))) (Kd.R_lt (pR zd.out))) (Kd.R_lt (pR za.out))) (Kd.R_lt (pR zb.out))) (Kd.R_lt (pR zz.out))) (below_size (qB4 HB zh zi zj z9)))
          have zao := aM (Kd.R_lower (Kd.R_new' (Kd.R_new' (Kd.R_new' (Kd.R_new' (Kd.R_new' ho1 (Kd.R_lt (pR zc.out))) (Kd.R_lt (pR zd.out))) (Kd.R_lt (pR za.out))) (Kd.R_lt (pR zb.out))) (Kd.R_lt (pR zz.out))) (below_size (qB4 HB zh zi zj z9)))
          replace zc := eR2 zc ho0 ho1 hb
          replace zd := eR2 zd ho0 ho1 hb
          replace za := eR2 za ho0 ho1 hb
          replace zb := eR2 zb ho0 ho1 hb
          replace zz := eR2 zz ho0 ho1 hb
          replace ze := bK ze hb
          replace zg := bK zg hb
          replace zf := bK zf hb
          replace z1 := bK z1 hb
          replace HB := bS (qB4 HB zh zi zj z9) hb
          (try clear hb)
          (try clear hk)
          (try clear ho0)
          (try clear ho1)
          refine hK.out _ _ (h3 ze) (fun hHeld => ?_)
          clear hK K
          refine norm_ (a' := ?_) ?_ ?_
          rotate_left
          ·show Act.put _ (some 133) _ = _
           simp only [Act.put, sP, i64_w, i32_w]
           rfl
          refine pP (i := 6) (N := some 127) (bm 12 639) rfl rfl HT_.out ?_
          refine pP (i := 7) (N := some 134) (bm 12 767) rfl rfl HT_.out ?_
          refine pP (i := 8) (N := some 135) (bm 12 1023) rfl rfl HT_.out ?_
          exact norm_ (by simp only [putAll, Act.put, sP]) (hCont (zbg, .slice zb2 za4.length zb3, za0, za1, z3) _ ⟨hHeld, (by (with_reducible repeat (first | apply rA | apply rN | apply rD)); exact Kd.R_mono zz.out (fun _ hk => ⟨hk.1.2, ⟨hk.2, ⟨hk.1.1.1, ⟨hk.1.1.2.1, ⟨hk.1.1.2.2.1, hk.1.1.2.2.2⟩⟩⟩⟩⟩)), (by (with_reducible repeat (first | apply rA | apply rN | apply rD)); exact Kd.R_mono zan.out (fun _ hk => ⟨hk.2, ⟨hk.1.1.1.1.1, ⟨hk.1.1.1.1.2, ⟨hk.1.1.1.2, ⟨hk.1.1.2, hk.1.2⟩⟩⟩⟩⟩)), (by (with_reducible repeat (first | apply rA | apply rN | apply rD)); exact Kd.R_mono zao.out (fun _ hk => ⟨hk.2, ⟨hk.1.1.1.1.1, ⟨hk.1.1.1.1.2, ⟨hk.1.1.1.2, ⟨hk.1.1.2, hk.1.2⟩⟩⟩⟩⟩)), (by (with_reducible repeat (first | apply rA | apply rN | apply rD)); exact Kd.R_mono zc.out (fun _ hk => ⟨hk.1.1.2, ⟨hk.1.2, ⟨hk.2, ⟨hk.1.1.1.1, ⟨hk.1.1.1.2.1, hk.1.1.1.2.2⟩⟩⟩⟩⟩)), (by (with_reducible repeat (first | apply rA | apply rN | apply rD)); exact Kd.R_mono zd.out (fun _ hk => ⟨hk.1.1.2, ⟨hk.1.2, ⟨hk.2, ⟨hk.1.1.1.1, ⟨hk.1.1.1.2.1, hk.1.1.1.2.2⟩⟩⟩⟩⟩)), (by (with_reducible repeat (first | apply rA | apply rN | apply rD)); exact Kd.R_mono za.out (fun _ hk => ⟨hk.1.1.2, ⟨hk.1.2, ⟨hk.2, ⟨hk.1.1.1.1, ⟨hk.1.1.1.2.1, hk.1.1.1.2.2⟩⟩⟩⟩⟩)), (by (with_reducible repeat (first | apply rA | apply rN | apply rD)); exact Kd.R_mono zb.out (fun _ hk => ⟨hk.1.1.2, ⟨hk.1.2, ⟨hk.2, ⟨hk.1.1.1.1, ⟨hk.1.1.1.2.1, hk.1.1.1.2.2⟩⟩⟩⟩⟩)), (pK ze.out), (pK zg.out), (pK zf.out), (pK z1.out), zay.out, z9.out, zk.out, zab.out, z5.out, zac.out, z6.out, zad.out, (qB4 HB zh zi zj z9)⟩)
        ·skip
         refine box_step ?hg (N := 20) ?hd (cs := #[.int .i64 0, .slice none 0 0, .slice none 0 0]) (t := 24) ?hr ?_; (case hd => rfl); (case hg => rfl); (case hr => first | (go_simp; done) | (go_simp; rfl))
         intro z3 hg w158 hbox hb
         replace zc := bR zc hb
         replace zd := bR zd hb
         replace za := bR za hb
         replace zb := bR zb hb
         have z1 := aM (hbox)
         have zay := gE (w := w) hg (qB3 HB zh zi zj)
         have z9 := zay
         replace HB := bS (qB3 HB zh zi zj) hb
         have zk := nL hg ze
         have zab := nG hg ze
         replace ze := bK ze hb
         have z5 := nL hg zg
         have zac := nG hg zg
         replace zg := bK zg hb
         have z6 := nL hg zf
         have zad := nG hg zf
         replace zf := bK zf hb
         clear hb hbox hg
         refine hK.out _ _ (h3 ze) (fun hHeld => ?_)
         clear hK K
         refine norm_ (a' := ?_) ?_ ?_
         rotate_left
         ·show Act.put _ (some 20) _ = _
          simp only [Act.put, sP, i64_w, i32_w]
          rfl
         refine one_ (i := 1) (N := some 129) (bm 12 527) rfl rfl (one_of HT_.out (by kernel_rfl)) (by decide) (fun K hK => ?_)
         refine Kd.R_lit_step (Kd.int .i64) _ 3 ?hg (N := 129) ?hd (xs := ([2] : List Int)) (inner := [.int .i64 2]) (ok := fun _ => True) (okp := fun _ => True) ?hr ?hp (fun _ hk => hk) trivial (Below.refl _ _) (Nat.le_refl _) (by simp) ?_; (case hd => rfl); (case hg => rfl); (case hr => first | (go_simp; done) | (go_simp; rfl)); (case hp => exact (Reps.one (show Kd.M (Kd.int .i64) _ _ _ 2 [.int .i64 2] from rfl) (Reps.none _ _)))
         intro zbg w159 ho160 hb hg_ hnew_
         clear hg_ hnew_
         (first | rw [← zb1.out] at ho160 | (simp only [Int.reduceToNat] at ho160; rw [← zb1.out] at ho160))
         have zaj := aM (Kd.R_lower (Kd.R_new' (Kd.R_new' (Kd.R_new' (Kd.R_new' ho160 (Kd.R_lt (pR zc.out))) (Kd.R_lt (pR zd.out))) (Kd.R_lt (pR za.out))) (Kd.R_lt (pR zb.out))) (below_size (qB4 HB zh zi zj z9)))
         replace zc := eR zc ho160 hb
         replace zd := eR zd ho160 hb
         replace za := eR za ho160 hb
         replace zb := eR zb ho160 hb
         replace ze := bK ze hb
         replace zg := bK zg hb
         replace zf := bK zf hb
         replace z1 := bK z1 hb
         replace HB := bS (qB4 HB zh zi zj z9) hb
         clear hb ho160
         refine hK.out _ _ (h3 ze) (fun hHeld => ?_)
         clear hK K
         refine norm_ (a' := ?_) ?_ ?_
         rotate_left
         ·show Act.put _ (some 129) _ = _
          simp only [Act.put, sP, i64_w, i32_w]
          rfl
         refine one_ (i := 4) (N := some 132) (bm 12 543) rfl rfl (one_of HT_.out (by kernel_rfl)) (by decide) (fun K hK => ?_)
         refine Kd.R_append_rows_step (Kd.int .i64) (w0 := w) w.heap.size (by rfl) (.tmp 129) (.tmp 131) 22 3 (.int .i64 0) 8 rfl Try.underlying22 info3 rfl (by decide) (by omega) zbg zbv l0_1 _ _ _ (fun k_ => some k_ ≠ (.slice zw zo.length zu : Value).ownBlock ∧ some k_ ≠ (.slice zx zp.length zv : Value).ownBlock ∧ some k_ ≠ (.slice zq zm.length zr : Value).ownBlock ∧ some k_ ≠ (.slice zs zn.length zt : Value).ownBlock) (fun _ => False) rfl rfl ?aO ?aR (fun _ _ h => h) (fun _ h => h.elim) ?aF ?aB ?aS ?aL ?_
         (case aR => exact sC zal HB)
         (case aB => exact (qB4 HB zh zi zj z9))
         (case aF => exact (fun k_ hk => ⟨Kd.fresh' (Kd.R_lt (pR zc.out)) k_ hk, Kd.fresh' (Kd.R_lt (pR zd.out)) k_ hk, Kd.fresh' (Kd.R_lt (pR za.out)) k_ hk, Kd.fresh' (Kd.R_lt (pR zb.out)) k_ hk⟩))
         (case aO => exact (by (with_reducible repeat (first | apply rA | apply rN | apply rD)); exact Kd.R_mono zaj.out (fun _ hk => ⟨hk.1.1.1.2, ⟨hk.1.1.2, ⟨hk.1.2, hk.2⟩⟩⟩)))
         (case aS => exact (below_size (qB4 HB zh zi zj z9)))
         (case aL => have := zbz.out; omega)
         intro zbb zey ho hb hg hat
         rw [← zcn.out] at ho
         replace zc := aM (Kd.R_after (ok := (fun k_ => some k_ ≠ (.slice zx zp.length zv : Value).ownBlock ∧ some k_ ≠ (.slice zq zm.length zr : Value).ownBlock ∧ some k_ ≠ (.slice zs zn.length zt : Value).ownBlock)) (pR zc.out) hg hat)
         replace zd := aM (Kd.R_after (ok := (fun k_ => some k_ ≠ (.slice zw zo.length zu : Value).ownBlock ∧ some k_ ≠ (.slice zq zm.length zr : Value).ownBlock ∧ some k_ ≠ (.slice zs zn.length zt : Value).ownBlock)) (pR zd.out) hg hat)
         replace za := aM (Kd.R_after (ok := (fun k_ => some k_ ≠ (.slice zw zo.length zu : Value).ownBlock ∧ some k_ ≠ (.slice zx zp.length zv : Value).ownBlock ∧ some k_ ≠ (.slice zs zn.length zt : Value).ownBlock)) (pR za.out) hg hat)
         replace zb := aM (Kd.R_after (ok := (fun k_ => some k_ ≠ (.slice zw zo.length zu : Value).ownBlock ∧ some k_ ≠ (.slice zx zp.length zv : Value).ownBlock ∧ some k_ ≠ (.slice zq zm.length zr : Value).ownBlock)) (pR zb.out) hg hat)
         replace ze := aM (blk_grown (g := zy) (pK ze.out) hg (Kd.R_ne zaj.out ze.out (by decide)))
         replace zg := aM (blk_grown (g := zai) (pK zg.out) hg (Kd.R_ne zaj.out zg.out (by decide)))
         replace zf := aM (blk_grown (g := zah) (pK zf.out) hg (Kd.R_ne zaj.out zf.out (by decide)))
         replace z1 := aM (blk_grown (g := z3) (pK z1.out) hg (Kd.R_ne zaj.out z1.out (by decide)))
         replace HB := aM (hb)
         have zz := aM (ho)
         clear zaj
         clear ho hb hg hat
         obtain ⟨zb2, zb3, zb4⟩ := Kd.R_slice zz.out
         (first | subst zb4 | (injection zb4 with f1_ f2_ f3_; have f4_ := f1_.symm; have f5_ := f3_.symm; clear f1_ f2_ f3_; subst f4_; subst f5_))
         refine hK.out _ _ (h3 ze) (fun hHeld => ?_)
         clear hK K
         refine norm_ (a' := ?_) ?_ ?_
         rotate_left
         ·show Act.put _ (some 132) _ = _
          simp only [Act.put, sP, i64_w, i32_w]
          rfl
         refine one_ (i := 5) (N := some 133) (bm 12 575) rfl rfl (one_of HT_.out (by kernel_rfl)) (by decide) (fun K hK => ?_)
         refine goes_ Try.func36 (by kernel_rfl) rfl #[.agg #[.int .i64 a0_0, .slice A0_1 l0_1.length c0_1, .slice A0_2 l0_2.length c0_2], .slice zb2 za4.length zb3] (by rfl) rfl rfl pA ?_
         with_reducible refine (view_Expand.calls zbd a0_0 _ _ l0_1 _ _ l0_2 _ _ za4 zbn zbo zbp zbf _ ?s1 ?s2 ?s3 ?s4 ?s5 ?s6 zcz.out).mono ?_
         (case s1 => exact sC zal HB)
         (case s2 => exact zav.out)
         (case s3 => exact sC zaw HB)
         (case s4 => exact zax.out)
         (case s5 => exact sR zz)
         (case s6 => exact sL zz)
         rintro e zek ⟨za0, za1, rfl, ho0, ho1, hb⟩
         refine ⟨_, rfl, ?_⟩
         have zan := aM (Kd.R_lower (Kd.R_new' (Kd.R_new' (Kd.R_new' (Kd.R_new' (Kd.R_new' ho0 (Kd.R_lt (pR zc.out))) (Kd.R_lt (pR zd.out))) (Kd.R_lt (pR za.out))) (Kd.R_lt (pR zb.out))) (Kd.R_lt (pR zz.out))) (below_size (qB4 HB zh zi zj z9)))
         have zao := aM (Kd.R_lower (Kd.R_new' (Kd.R_new' (Kd.R_new' (Kd.R_new' (Kd.R_new' ho1 (Kd.R_lt (pR zc.out))) (Kd.R_lt (pR zd.out))) (Kd.R_lt (pR za.out))) (Kd.R_lt (pR zb.out))) (Kd.R_lt (pR zz.out))) (below_size (qB4 HB zh zi zj z9)))
         replace zc := eR2 zc ho0 ho1 hb
         replace zd := eR2 zd ho0 ho1 hb
         replace za := eR2 za ho0 ho1 hb
         replace zb := eR2 zb ho0 ho1 hb
         replace zz := eR2 zz ho0 ho1 hb
         replace ze := bK ze hb
         replace zg := bK zg hb
         replace zf := bK zf hb
         replace z1 := bK z1 hb
         replace HB := bS (qB4 HB zh zi zj z9) hb
         (try clear hb)
         (try clear hk)
         (try clear ho0)
         (try clear ho1)
         refine hK.out _ _ (h3 ze) (fun hHeld => ?_)
         clear hK K
         refine norm_ (a' := ?_) ?_ ?_
         rotate_left
         ·show Act.put _ (some 133) _ = _
          simp only [Act.put, sP, i64_w, i32_w]
          rfl
         refine pP (i := 6) (N := some 127) (bm 12 639) rfl rfl HT_.out ?_
         refine pP (i := 7) (N := some 134) (bm 12 767) rfl rfl HT_.out ?_
         refine pP (i := 8) (N := some 135) (bm 12 1023) rfl rfl HT_.out ?_
         exact norm_ (by simp only [putAll, Act.put, sP]) (hCont (zbg, .slice zb2 za4.length zb3, za0, za1, z3) _ ⟨hHeld, (by (with_reducible repeat (first | apply rA | apply rN | apply rD)); exact Kd.R_mono zz.out (fun _ hk => ⟨hk.1.2, ⟨hk.2, ⟨hk.1.1.1, ⟨hk.1.1.2.1, ⟨hk.1.1.2.2.1, hk.1.1.2.2.2⟩⟩⟩⟩⟩)), (by (with_reducible repeat (first | apply rA | apply rN | apply rD)); exact Kd.R_mono zan.out (fun _ hk => ⟨hk.2, ⟨hk.1.1.1.1.1, ⟨hk.1.1.1.1.2, ⟨hk.1.1.1.2, ⟨hk.1.1.2, hk.1.2⟩⟩⟩⟩⟩)), (by (with_reducible repeat (first | apply rA | apply rN | apply rD)); exact Kd.R_mono zao.out (fun _ hk => ⟨hk.2, ⟨hk.1.1.1.1.1, ⟨hk.1.1.1.1.2, ⟨hk.1.1.1.2, ⟨hk.1.1.2, hk.1.2⟩⟩⟩⟩⟩)), (by (with_reducible repeat (first | apply rA | apply rN | apply rD)); exact Kd.R_mono zc.out (fun _ hk => ⟨hk.1.1.2, ⟨hk.1.2, ⟨hk.2, ⟨hk.1.1.1.1, ⟨hk.1.1.1.2.1, hk.1.1.1.2.2⟩⟩⟩⟩⟩)), (by (with_reducible repeat (first | apply rA | apply rN | apply rD)); exact Kd.R_mono zd.out (fun _ hk => ⟨hk.1.1.2, ⟨hk.1.2, ⟨hk.2, ⟨hk.1.1.1.1, ⟨hk.1.1.1.2.1, hk.1.1.1.2.2⟩⟩⟩⟩⟩)), (by (with_reducible repeat (first | apply rA | apply rN | apply rD)); exact Kd.R_mono za.out (fun _ hk => ⟨hk.1.1.2, ⟨hk.1.2, ⟨hk.2, ⟨hk.1.1.1.1, ⟨hk.1.1.1.2.1, hk.1.1.1.2.2⟩⟩⟩⟩⟩)), (by (with_reducible repeat (first | apply rA | apply rN | apply rD)); exact Kd.R_mono zb.out (fun _ hk => ⟨hk.1.1.2, ⟨hk.1.2, ⟨hk.2, ⟨hk.1.1.1.1, ⟨hk.1.1.1.2.1, hk.1.1.1.2.2⟩⟩⟩⟩⟩)), (pK ze.out), (pK zg.out), (pK zf.out), (pK z1.out), zay.out, z9.out, zk.out, zab.out, z5.out, zac.out, z6.out, zad.out, (qB4 HB zh zi zj z9)⟩)
       rintro ⟨zbg, zbb, za0, za1, z3⟩ zbj ⟨hS_, h0_, h1_, h2_, h3_, h4_, h5_, h6_, h7_, h8_, h9_, h10_, h11_, h12_, h13_, h14_, h15_, h16_, h17_, h18_, h19_⟩
       have n0_ : Aside0 (Kd.R (Kd.int .i64) 3 zbj w.heap.size (fun k_ => some k_ ≠ (za0 : Value).ownBlock ∧ some k_ ≠ (za1 : Value).ownBlock ∧ some k_ ≠ (.slice zw zo.length zu : Value).ownBlock ∧ some k_ ≠ (.slice zx zp.length zv : Value).ownBlock ∧ some k_ ≠ (.slice zq zm.length zr : Value).ownBlock ∧ some k_ ≠ (.slice zs zn.length zt : Value).ownBlock) zbb za4) := ⟨h0_⟩
       have n1_ : Aside0 (Kd.R (Kd.int .i64) 3 zbj w.heap.size (fun k_ => some k_ ≠ (zbb : Value).ownBlock ∧ some k_ ≠ (za1 : Value).ownBlock ∧ some k_ ≠ (.slice zw zo.length zu : Value).ownBlock ∧ some k_ ≠ (.slice zx zp.length zv : Value).ownBlock ∧ some k_ ≠ (.slice zq zm.length zr : Value).ownBlock ∧ some k_ ≠ (.slice zs zn.length zt : Value).ownBlock) za0 zbo) := ⟨h1_⟩
       have n2_ : Aside0 (Kd.R (Kd.int .i64) 3 zbj w.heap.size (fun k_ => some k_ ≠ (zbb : Value).ownBlock ∧ some k_ ≠ (za0 : Value).ownBlock ∧ some k_ ≠ (.slice zw zo.length zu : Value).ownBlock ∧ some k_ ≠ (.slice zx zp.length zv : Value).ownBlock ∧ some k_ ≠ (.slice zq zm.length zr : Value).ownBlock ∧ some k_ ≠ (.slice zs zn.length zt : Value).ownBlock) za1 zbp) := ⟨h2_⟩
       have n3_ : Aside0 (Kd.R (Kd.int .i64) 3 zbj w.heap.size (fun k_ => some k_ ≠ (zbb : Value).ownBlock ∧ some k_ ≠ (za0 : Value).ownBlock ∧ some k_ ≠ (za1 : Value).ownBlock ∧ some k_ ≠ (.slice zx zp.length zv : Value).ownBlock ∧ some k_ ≠ (.slice zq zm.length zr : Value).ownBlock ∧ some k_ ≠ (.slice zs zn.length zt : Value).ownBlock) (.slice zw zo.length zu) zo) := ⟨h3_⟩
       have n4_ : Aside0 (Kd.R (Kd.int .i64) 3 zbj w.heap.size (fun k_ => some k_ ≠ (zbb : Value).ownBlock ∧ some k_ ≠ (za0 : Value).ownBlock ∧ some k_ ≠ (za1 : Value).ownBlock ∧ some k_ ≠ (.slice zw zo.length zu : Value).ownBlock ∧ some k_ ≠ (.slice zq zm.length zr : Value).ownBlock ∧ some k_ ≠ (.slice zs zn.length zt : Value).ownBlock) (.slice zx zp.length zv) zp) := ⟨h4_⟩
       have n5_ : Aside0 (Kd.R (Kd.int .i64) 3 zbj w.heap.size (fun k_ => some k_ ≠ (zbb : Value).ownBlock ∧ some k_ ≠ (za0 : Value).ownBlock ∧ some k_ ≠ (za1 : Value).ownBlock ∧ some k_ ≠ (.slice zw zo.length zu : Value).ownBlock ∧ some k_ ≠ (.slice zx zp.length zv : Value).ownBlock ∧ some k_ ≠ (.slice zs zn.length zt : Value).ownBlock) (.slice zq zm.length zr) zm) := ⟨h5_⟩
       have n6_ : Aside0 (Kd.R (Kd.int .i64) 3 zbj w.heap.size (fun k_ => some k_ ≠ (zbb : Value).ownBlock ∧ some k_ ≠ (za0 : Value).ownBlock ∧ some k_ ≠ (za1 : Value).ownBlock ∧ some k_ ≠ (.slice zw zo.length zu : Value).ownBlock ∧ some k_ ≠ (.slice zx zp.length zv : Value).ownBlock ∧ some k_ ≠ (.slice zq zm.length zr : Value).ownBlock) (.slice zs zn.length zt) zn) := ⟨h6_⟩
       have n7_ : Aside0 (zbj.heap[zy]? = some (.cells #[.int .i64 a0_0, .slice A0_1 l0_1.length c0_1, .slice A0_2 l0_2.length c0_2] 24 (0, 0))) := ⟨h7_⟩
       have n8_ : Aside0 (zbj.heap[zai]? = some (.cells #[.int .i64 zba, .slice zw zo.length zu, .slice zx zp.length zv] 24 (0, 0))) := ⟨h8_⟩
       have n9_ : Aside0 (zbj.heap[zah]? = some (.cells #[.int .i64 za8, .slice zq zm.length zr, .slice zs zn.length zt] 24 (0, 0))) := ⟨h9_⟩
       have n10_ : Aside0 (zbj.heap[z3]? = some (.cells #[.int .i64 0, .slice none 0 0, .slice none 0 0] 24 (0, 0))) := ⟨h10_⟩
       have n11_ : Aside0 (w.heap.size ≤ z3) := ⟨h11_⟩
       have n12_ : Aside0 (w.heap.size ≤ z3) := ⟨h12_⟩
       have n13_ : Aside0 (zy ≠ z3) := ⟨h13_⟩
       have n14_ : Aside0 (z3 ≠ zy) := ⟨h14_⟩
       have n15_ : Aside0 (zai ≠ z3) := ⟨h15_⟩
       have n16_ : Aside0 (z3 ≠ zai) := ⟨h16_⟩
       have n17_ : Aside0 (zah ≠ z3) := ⟨h17_⟩
       have n18_ : Aside0 (z3 ≠ zah) := ⟨h18_⟩
       have n19_ : Aside0 (Below w.heap.size w zbj) := ⟨h19_⟩
       clear zc
       clear zd
       clear za
       clear zb
       clear ze
       clear zg
       clear zf
       clear HB
       clear h0_ h1_ h2_ h3_ h4_ h5_ h6_ h7_ h8_ h9_ h10_ h11_ h12_ h13_ h14_ h15_ h16_ h17_ h18_ h19_
       have zz := n0_
       have zan := n1_
       have zao := n2_
       have zc := n3_
       have zd := n4_
       have za := n5_
       have zb := n6_
       have ze := n7_
       have zg := n8_
       have zf := n9_
       have z1 := n10_
       have zay := n11_
       have z9 := n12_
       have zk := n13_
       have zab := n14_
       have z5 := n15_
       have zac := n16_
       have z6 := n17_
       have zad := n18_
       have HB := n19_
       clear n0_ n1_ n2_ n3_ n4_ n5_ n6_ n7_ n8_ n9_ n10_ n11_ n12_ n13_ n14_ n15_ n16_ n17_ n18_ n19_
       have hHeld : zbj.cell? ⟨zy, 0, none⟩ = some (.int .i64 a0_0) ∧ zbj.cell? ⟨zy, 1, none⟩ = some (.slice A0_1 l0_1.length c0_1) ∧ zbj.cell? ⟨zy, 2, none⟩ = some (.slice A0_2 l0_2.length c0_2) := hS_
       obtain ⟨Ao166, co166, zdv⟩ := Kd.R_slice zan.out
       (first | subst zdv | (injection zdv with f1_ f2_ f3_; have f4_ := f1_.symm; have f5_ := f3_.symm; clear f1_ f2_ f3_; subst f4_; subst f5_))
       obtain ⟨Ao168, co168, zdw⟩ := Kd.R_slice zao.out
       (first | subst zdw | (injection zdw with f1_ f2_ f3_; have f4_ := f1_.symm; have f5_ := f3_.symm; clear f1_ f2_ f3_; subst f4_; subst f5_))
       refine norm_ (a' := ?_) ?_ ?_
       rotate_left
       ·simp only [putAll, Act.put, sP]
        rfl
       refine one_ (i := 10) (N := none) (bm 12 2047) rfl rfl (one_of HT_.out (by kernel_rfl)) (by decide) (fun K hK => ?_)
       have hs165 : zbj.cell? ⟨z3, 0, none⟩ = some (.int .i64 0) := (blk_cell z1.out 0).trans rfl
       have hfs165 := blk_frozen z1.out 0
       have hns165_0 := zk.out
       have hns165_1 := z5.out
       have hns165_2 := z6.out
       have hms165_0 := zab.out
       have hms165_1 := zac.out
       have hms165_2 := zad.out
       have hs167 : zbj.cell? ⟨z3, 1, none⟩ = some (.slice none 0 0) := (blk_cell z1.out 1).trans rfl
       have hfs167 := blk_frozen z1.out 1
       have hns167_0 := zk.out
       have hns167_1 := z5.out
       have hns167_2 := z6.out
       have hms167_0 := zab.out
       have hms167_1 := zac.out
       have hms167_2 := zad.out
       have hs169 : zbj.cell? ⟨z3, 2, none⟩ = some (.slice none 0 0) := (blk_cell z1.out 2).trans rfl
       have hfs169 := blk_frozen z1.out 2
       have hns169_0 := zk.out
       have hns169_1 := z5.out
       have hns169_2 := z6.out
       have hms169_0 := zab.out
       have hms169_1 := zac.out
       have hms169_2 := zad.out
       refine skip_ (w1 := ?_) (by rfl) rfl ?_ ?_
       rotate_left
       ·go_simp
        rfl
       refine hK.out _ _ ⟨((cell_far (p := ⟨z3, _, none⟩) zk.out _).trans (((cell_far (p := ⟨z3, _, none⟩) zk.out _).trans (((cell_far (p := ⟨z3, _, none⟩) zk.out _).trans (hHeld.1)))))), ((cell_far (p := ⟨z3, _, none⟩) zk.out _).trans (((cell_far (p := ⟨z3, _, none⟩) zk.out _).trans (((cell_far (p := ⟨z3, _, none⟩) zk.out _).trans (hHeld.2.1)))))), ((cell_far (p := ⟨z3, _, none⟩) zk.out _).trans (((cell_far (p := ⟨z3, _, none⟩) zk.out _).trans (((cell_far (p := ⟨z3, _, none⟩) zk.out _).trans (hHeld.2.2))))))⟩ (fun hHeld => ?_)
       clear hK K
       refine pP (i := 11) (N := some 21) (bm 12 4095) rfl rfl HT_.out ?_
       refine done_ (done_of HT_.out (by kernel_rfl)) ?_
       try go_wp2_with (first | (go_at_call 26; (with_reducible refine (gradinelaw23_same.calls  zc3 _ A156.out).mono ?_); rintro e w170 ⟨rfl, hb⟩; replace zc := aM (Kd.R_below (by (with_reducible repeat (first | apply rA | apply rN | apply rD)); exact (F3 zc z1 (fun _ h_ => h_.1))) hb); replace zd := aM (Kd.R_below (by (with_reducible repeat (first | apply rA | apply rN | apply rD)); exact (F3 zd z1 (fun _ h_ => h_.1))) hb); replace za := aM (Kd.R_below (by (with_reducible repeat (first | apply rA | apply rN | apply rD)); exact (F3 za z1 (fun _ h_ => h_.1))) hb); replace zb := aM (Kd.R_below (by (with_reducible repeat (first | apply rA | apply rN | apply rD)); exact (F3 zb z1 (fun _ h_ => h_.1))) hb); replace zz := aM (Kd.R_below (by (with_reducible repeat (first | apply rA | apply rN | apply rD)); exact (F3 zz z1 (fun _ h_ => h_.1))) hb); replace zan := aM (Kd.R_below (by (with_reducible repeat (first | apply rA | apply rN | apply rD)); exact (F3 zan z1 (fun _ h_ => h_.1))) hb); replace zao := aM (Kd.R_below (by (with_reducible repeat (first | apply rA | apply rN | apply rD)); exact (F3 zao z1 (fun _ h_ => h_.1))) hb); replace ze := aM (blk_below (g := zy) (o := .cells #[.int .i64 a0_0, .slice A0_1 l0_1.length c0_1, .slice A0_2 l0_2.length c0_2] 24 (0, 0)) (by refine B3 zk ?_; exact ze.out) hb); replace zg := aM (blk_below (g := zai) (o := .cells #[.int .i64 zba, .slice zw zo.length zu, .slice zx zp.length zv] 24 (0, 0)) (by refine B3 z5 ?_; exact zg.out) hb); replace zf := aM (blk_below (g := zah) (o := .cells #[.int .i64 za8, .slice zq zm.length zr, .slice zs zn.length zt] 24 (0, 0)) (by refine B3 z6 ?_; exact zf.out) hb); replace z1 := aM (blk_below (g := z3) (o := .cells #[.int .i64 zbn, .slice Ao166 zbo.length co166, .slice Ao168 zbp.length co168] 24 (0, 0)) (by exact P3 z1) hb); replace HB := bS (qB4 HB zh zi zj z9) hb; (try clear hb); (try clear hk); (try clear hi)))
       go_ret
       replace hv_ := hv_.out
       exact ⟨pE, qB4 HB zh zi zj z9⟩
      rw [if_pos c133] at H
      have c133b0 : (zbf == 0) = true := beq_iff_eq.mpr c133
      have c133b1 : (zbf != 0) = false := bne_eq_false_iff_eq.mpr c133
      clear c133
      replace H := Option.bind_eq_some_iff.mp H
      obtain ⟨zc1, zdx, H⟩ := H
      try dsimp only at H
      have A134 := aM zdx
      clear zdx
      by_cases c135 : zc1 = true
      ·subst c135
       rw [if_pos rfl] at H
       exact absurd H (by simp)
      replace c135 := Bool.eq_false_iff.mpr c135
      subst c135
      rw [if_neg (show ¬ (false = true) by decide)] at H
      replace H := Option.bind_eq_some_iff.mp H
      obtain ⟨zc2, zdy, H⟩ := H
      try dsimp only at H
      have A136 := aM zdy
      clear zdy
      have hv_ := aM (Option.some.inj H)
      clear H
      try go_wp2
      replace zc := aM (Kd.R_drew zc.out)
      replace zd := aM (Kd.R_drew zd.out)
      replace za := aM (Kd.R_drew za.out)
      replace zb := aM (Kd.R_drew zb.out)
      replace ze := aM (blk_drew ze.out)
      replace zg := aM (blk_drew zg.out)
      replace zf := aM (blk_drew zf.out)
      replace HB := aM (below_drew1 HB.out)
      refine start_ (n := 12) (S := fun w' => w'.cell? ⟨zy, 0, none⟩ = some (.int .i64 a0_0) ∧ w'.cell? ⟨zy, 1, none⟩ = some (.slice A0_1 l0_1.length c0_1) ∧ w'.cell? ⟨zy, 2, none⟩ = some (.slice A0_2 l0_2.length c0_2)) (ds := []) (bm 12 0) (by kernel_rfl) rfl rfl (h3 ze) (fun hHeld => ?_); refine with_tabW gradinelaw23_CellsSame.tab14 gradinelaw23_CellsSame.bits14 (fun HT_ HW_ => ?_)
      generalize wc.drew = w137 at zc zd za zb ze zg zf HB hHeld ⊢
      refine pP (i := 2) (N := some 130) (bm 12 4) rfl rfl HT_.out ?_
      refine pT (i := 0) (N := some 128) (bm 12 5) rfl rfl HT_.out HW_.out hHeld (by rintro w' ⟨s0, s1, s2⟩; go_simp; with_reducible rfl) ?_
      refine pT (i := 3) (N := some 131) (bm 12 13) rfl rfl HT_.out HW_.out hHeld (by rintro w' ⟨s0, s1, s2⟩; go_simp; with_reducible rfl) ?_
      refine join_ (σ := Value × Value × Value × Value × Nat) 2 (bm 12 1023) (fun s_ => [(129, s_.1), (132, s_.2.1), (133, .tuple #[.agg #[.int .i64 zbn, s_.2.2.1, s_.2.2.2.1], .int .i64 zbf]), (20, .pointer (some ⟨s_.2.2.2.2, 0, none⟩)), (127, .tuple #[.agg #[.int .i64 zbn, s_.2.2.1, s_.2.2.2.1], .int .i64 zbf]), (134, .agg #[.int .i64 zbn, s_.2.2.1, s_.2.2.2.1]), (135, .int .i64 zbf)]) (fun s_ w' => (w'.cell? ⟨zy, 0, none⟩ = some (.int .i64 a0_0) ∧ w'.cell? ⟨zy, 1, none⟩ = some (.slice A0_1 l0_1.length c0_1) ∧ w'.cell? ⟨zy, 2, none⟩ = some (.slice A0_2 l0_2.length c0_2)) ∧ (Kd.R (Kd.int .i64) 3 w' w.heap.size (fun k_ => some k_ ≠ (s_.2.2.1 : Value).ownBlock ∧ some k_ ≠ (s_.2.2.2.1 : Value).ownBlock ∧ some k_ ≠ (.slice zw zo.length zu : Value).ownBlock ∧ some k_ ≠ (.slice zx zp.length zv : Value).ownBlock ∧ some k_ ≠ (.slice zq zm.length zr : Value).ownBlock ∧ some k_ ≠ (.slice zs zn.length zt : Value).ownBlock) s_.2.1 za4) ∧ (Kd.R (Kd.int .i64) 3 w' w.heap.size (fun k_ => some k_ ≠ (s_.2.1 : Value).ownBlock ∧ some k_ ≠ (s_.2.2.2.1 : Value).ownBlock ∧ some k_ ≠ (.slice zw zo.length zu : Value).ownBlock ∧ some k_ ≠ (.slice zx zp.length zv : Value).ownBlock ∧ some k_ ≠ (.slice zq zm.length zr : Value).ownBlock ∧ some k_ ≠ (.slice zs zn.length zt : Value).ownBlock) s_.2.2.1 zbo) ∧ (Kd.R (Kd.int .i64) 3 w' w.heap.size (fun k_ => some k_ ≠ (s_.2.1 : Value).ownBlock ∧ some k_ ≠ (s_.2.2.1 : Value).ownBlock ∧ some k_ ≠ (.slice zw zo.length zu : Value).ownBlock ∧ some k_ ≠ (.slice zx zp.length zv : Value).ownBlock ∧ some k_ ≠ (.slice zq zm.length zr : Value).ownBlock ∧ some k_ ≠ (.slice zs zn.length zt : Value).ownBlock) s_.2.2.2.1 zbp) ∧ (Kd.R (Kd.int .i64) 3 w' w.heap.size (fun k_ => some k_ ≠ (s_.2.1 : Value).ownBlock ∧ some k_ ≠ (s_.2.2.1 : Value).ownBlock ∧ some k_ ≠ (s_.2.2.2.1 : Value).ownBlock ∧ some k_ ≠ (.slice zx zp.length zv : Value).ownBlock ∧ some k_ ≠ (.slice zq zm.length zr : Value).ownBlock ∧ some k_ ≠ (.slice zs zn.length zt : Value).ownBlock) (.slice zw zo.length zu) zo) ∧ (Kd.R (Kd.int .i64) 3 w' w.heap.size (fun k_ => some k_ ≠ (s_.2.1 : Value).ownBlock ∧ some k_ ≠ (s_.2.2.1 : Value).ownBlock ∧ some k_ ≠ (s_.2.2.2.1 : Value).ownBlock ∧ some k_ ≠ (.slice zw zo.length zu : Value).ownBlock ∧ some k_ ≠ (.slice zq zm.length zr : Value).ownBlock ∧ some k_ ≠ (.slice zs zn.length zt : Value).ownBlock) (.slice zx zp.length zv) zp) ∧ (Kd.R (Kd.int .i64) 3 w' w.heap.size (fun k_ => some k_ ≠ (s_.2.1 : Value).ownBlock ∧ some k_ ≠ (s_.2.2.1 : Value).ownBlock ∧ some k_ ≠ (s_.2.2.2.1 : Value).ownBlock ∧ some k_ ≠ (.slice zw zo.length zu : Value).ownBlock ∧ some k_ ≠ (.slice zx zp.length zv : Value).ownBlock ∧ some k_ ≠ (.slice zs zn.length zt : Value).ownBlock) (.slice zq zm.length zr) zm) ∧ (Kd.R (Kd.int .i64) 3 w' w.heap.size (fun k_ => some k_ ≠ (s_.2.1 : Value).ownBlock ∧ some k_ ≠ (s_.2.2.1 : Value).ownBlock ∧ some k_ ≠ (s_.2.2.2.1 : Value).ownBlock ∧ some k_ ≠ (.slice zw zo.length zu : Value).ownBlock ∧ some k_ ≠ (.slice zx zp.length zv : Value).ownBlock ∧ some k_ ≠ (.slice zq zm.length zr : Value).ownBlock) (.slice zs zn.length zt) zn) ∧ (w'.heap[zy]? = some (.cells #[.int .i64 a0_0, .slice A0_1 l0_1.length c0_1, .slice A0_2 l0_2.length c0_2] 24 (0, 0))) ∧ (w'.heap[zai]? = some (.cells #[.int .i64 zba, .slice zw zo.length zu, .slice zx zp.length zv] 24 (0, 0))) ∧ (w'.heap[zah]? = some (.cells #[.int .i64 za8, .slice zq zm.length zr, .slice zs zn.length zt] 24 (0, 0))) ∧ (w'.heap[s_.2.2.2.2]? = some (.cells #[.int .i64 0, .slice none 0 0, .slice none 0 0] 24 (0, 0))) ∧ (w.heap.size ≤ s_.2.2.2.2) ∧ (w.heap.size ≤ s_.2.2.2.2) ∧ (zy ≠ s_.2.2.2.2) ∧ (s_.2.2.2.2 ≠ zy) ∧ (zai ≠ s_.2.2.2.2) ∧ (s_.2.2.2.2 ≠ zai) ∧ (zah ≠ s_.2.2.2.2) ∧ (s_.2.2.2.2 ≠ zah) ∧ (Below w.heap.size w w')) ?_ ?_
      rotate_left
      ·intro hCont
       refine two_ (i := 1) (j := 9) (Ni := some 129) (Nj := some 20) (bm 12 15) (bm 12 525) rfl rfl rfl rfl (two_of HT_.out (by kernel_rfl)) (by decide) (by decide) (fun K hK => ?_) (fun K hK => ?_)
       ·skip
        refine Kd.R_lit_step (Kd.int .i64) _ 3 ?hg (N := 129) ?hd (xs := ([2] : List Int)) (inner := [.int .i64 2]) (ok := fun _ => True) (okp := fun _ => True) ?hr ?hp (fun _ hk => hk) trivial (Below.refl _ _) (Nat.le_refl _) (by simp) ?_; (case hd => rfl); (case hg => rfl); (case hr => first | (go_simp; done) | (go_simp; rfl)); (case hp => exact (Reps.one (show Kd.M (Kd.int .i64) _ _ _ 2 [.int .i64 2] from rfl) (Reps.none _ _)))
        intro zbg w138 ho139 hb hg_ hnew_
        clear hg_ hnew_
        (first | rw [← zb1.out] at ho139 | (simp only [Int.reduceToNat] at ho139; rw [← zb1.out] at ho139))
        have zaj := aM (Kd.R_lower (Kd.R_new' (Kd.R_new' (Kd.R_new' (Kd.R_new' ho139 (Kd.R_lt (pR zc.out))) (Kd.R_lt (pR zd.out))) (Kd.R_lt (pR za.out))) (Kd.R_lt (pR zb.out))) (below_size (qB3 HB zh zi zj)))
        replace zc := eR zc ho139 hb
        replace zd := eR zd ho139 hb
        replace za := eR za ho139 hb
        replace zb := eR zb ho139 hb
        replace ze := bK ze hb
        replace zg := bK zg hb
        replace zf := bK zf hb
        replace HB := bS (qB3 HB zh zi zj) hb
        clear hb ho139
        refine hK.out _ _ (h3 ze) (fun hHeld => ?_)
        clear hK K
        refine norm_ (a' := ?_) ?_ ?_
        rotate_left
        ·show Act.put _ (some 129) _ = _
         simp only [Act.put, sP, i64_w, i32_w]
         rfl
        refine two_ (i := 4) (j := 9) (Ni := some 132) (Nj := some 20) (bm 12 31) (bm 12 527) rfl rfl rfl rfl (two_of HT_.out (by kernel_rfl)) (by decide) (by decide) (fun K hK => ?_) (fun K hK => ?_)
        ·skip
         refine Kd.R_append_rows_step (Kd.int .i64) (w0 := w) w.heap.size (by rfl) (.tmp 129) (.tmp 131) 22 3 (.int .i64 0) 8 rfl Try.underlying22 info3 rfl (by decide) (by omega) zbg zbv l0_1 _ _ _ (fun k_ => some k_ ≠ (.slice zw zo.length zu : Value).ownBlock ∧ some k_ ≠ (.slice zx zp.length zv : Value).ownBlock ∧ some k_ ≠ (.slice zq zm.length zr : Value).ownBlock ∧ some k_ ≠ (.slice zs zn.length zt : Value).ownBlock) (fun _ => False) rfl rfl ?aO ?aR (fun _ _ h => h) (fun _ h => h.elim) ?aF ?aB ?aS ?aL ?_
         (case aR => exact sC zal HB)
         (case aB => exact (qB3 HB zh zi zj))
         (case aF => exact (fun k_ hk => ⟨Kd.fresh' (Kd.R_lt (pR zc.out)) k_ hk, Kd.fresh' (Kd.R_lt (pR zd.out)) k_ hk, Kd.fresh' (Kd.R_lt (pR za.out)) k_ hk, Kd.fresh' (Kd.R_lt (pR zb.out)) k_ hk⟩))
         (case aO => exact (by (with_reducible repeat (first | apply rA | apply rN | apply rD)); exact Kd.R_mono zaj.out (fun _ hk => ⟨hk.1.1.1.2, ⟨hk.1.1.2, ⟨hk.1.2, hk.2⟩⟩⟩)))
         (case aS => exact (below_size (qB3 HB zh zi zj)))
         (case aL => have := zbz.out; omega)
         intro zbb w140 ho hb hg hat
         rw [← zcn.out] at ho
         replace zc := aM (Kd.R_after (ok := (fun k_ => some k_ ≠ (.slice zx zp.length zv : Value).ownBlock ∧ some k_ ≠ (.slice zq zm.length zr : Value).ownBlock ∧ some k_ ≠ (.slice zs zn.length zt : Value).ownBlock)) (pR zc.out) hg hat)
         replace zd := aM (Kd.R_after (ok := (fun k_ => some k_ ≠ (.slice zw zo.length zu : Value).ownBlock ∧ some k_ ≠ (.slice zq zm.length zr : Value).ownBlock ∧ some k_ ≠ (.slice zs zn.length zt : Value).ownBlock)) (pR zd.out) hg hat)
         replace za := aM (Kd.R_after (ok := (fun k_ => some k_ ≠ (.slice zw zo.length zu : Value).ownBlock ∧ some k_ ≠ (.slice zx zp.length zv : Value).ownBlock ∧ some k_ ≠ (.slice zs zn.length zt : Value).ownBlock)) (pR za.out) hg hat)
         replace zb := aM (Kd.R_after (ok := (fun k_ => some k_ ≠ (.slice zw zo.length zu : Value).ownBlock ∧ some k_ ≠ (.slice zx zp.length zv : Value).ownBlock ∧ some k_ ≠ (.slice zq zm.length zr : Value).ownBlock)) (pR zb.out) hg hat)
         replace ze := aM (blk_grown (g := zy) (pK ze.out) hg (Kd.R_ne zaj.out ze.out (by decide)))
         replace zg := aM (blk_grown (g := zai) (pK zg.out) hg (Kd.R_ne zaj.out zg.out (by decide)))
         replace zf := aM (blk_grown (g := zah) (pK zf.out) hg (Kd.R_ne zaj.out zf.out (by decide)))
         replace HB := aM (hb)
         have zz := aM (ho)
         clear zaj
         clear ho hb hg hat
         obtain ⟨zdz, zd0, zd1⟩ := Kd.R_slice zz.out
         (first | subst zd1 | (injection zd1 with f1_ f2_ f3_; have f4_ := f1_.symm; have f5_ := f3_.symm; clear f1_ f2_ f3_; subst f4_; subst f5_))
         refine hK.out _ _ (h3 ze) (fun hHeld => ?_)
         clear hK K
         refine norm_ (a' := ?_) ?_ ?_
         rotate_left
         ·show Act.put _ (some 132) _ = _
          simp only [Act.put, sP, i64_w, i32_w]
          rfl
         refine two_ (i := 5) (j := 9) (Ni := some 133) (Nj := some 20) (bm 12 63) (bm 12 543) rfl rfl rfl rfl (two_of HT_.out (by kernel_rfl)) (by decide) (by decide) (fun K hK => ?_) (fun K hK => ?_)
         ·skip
          refine goes_ Try.func36 (by kernel_rfl) rfl #[.agg #[.int .i64 a0_0, .slice A0_1 l0_1.length c0_1, .slice A0_2 l0_2.length c0_2], .slice zdz za4.length zd0] (by rfl) rfl rfl pA ?_
          with_reducible refine (view_Expand.calls zbd a0_0 _ _ l0_1 _ _ l0_2 _ _ za4 zbn zbo zbp zbf _ ?s1 ?s2 ?s3 ?s4 ?s5 ?s6 zcz.out).mono ?_
          (case s1 => exact sC zal HB)
          (case s2 => exact zav.out)
          (case s3 => exact sC zaw HB)
          (case s4 => exact zax.out)
          (case s5 => exact sR zz)
          (case s6 => exact sL zz)
          rintro e w142 ⟨za0, za1, rfl, ho0, ho1, hb⟩
          refine ⟨_, rfl, ?_⟩
          have zan := aM (Kd.R_lower (Kd.R_new' (Kd.R_new' (Kd.R_new' (Kd.R_new' (Kd.R_new' ho0 (Kd.R_lt (pR zc.out))) (Kd.R_lt (pR zd.out))) (Kd.R_lt (pR za.out))) (Kd.R_lt (pR zb.out))) (Kd.R_lt (pR zz.out))) (below_size (qB3 HB zh zi zj)))
          have zao := aM (Kd.R_lower (Kd.R_new' (Kd.R_new' (Kd.R_new' (Kd.R_new' (Kd.R_new' ho1 (Kd.R_lt (pR zc.out))) (Kd.R_lt (pR zd.out))) (Kd.R_lt (pR za.out))) (Kd.R_lt (pR zb.out))) (Kd.R_lt (pR zz.out))) (below_size (qB3 HB zh zi zj)))
          replace zc := eR2 zc ho0 ho1 hb
          replace zd := eR2 zd ho0 ho1 hb
          replace za := eR2 za ho0 ho1 hb
          replace zb := eR2 zb ho0 ho1 hb
          replace zz := eR2 zz ho0 ho1 hb
          replace ze := bK ze hb
          replace zg := bK zg hb
          replace zf := bK zf hb
          replace HB := bS (qB3 HB zh zi zj) hb
          (try clear hb)
          (try clear hk)
          (try clear ho0)
          (try clear ho1)
          refine hK.out _ _ (h3 ze) (fun hHeld => ?_)
          clear hK K
          refine norm_ (a' := ?_) ?_ ?_
          rotate_left
          ·show Act.put _ (some 133) _ = _
           simp only [Act.put, sP, i64_w, i32_w]
           rfl
          refine pP (i := 6) (N := some 127) (bm 12 127) rfl rfl HT_.out ?_
          refine pP (i := 7) (N := some 134) (bm 12 255) rfl rfl HT_.out ?_
          refine pP (i := 8) (N := some 135) (bm 12 511) rfl rfl HT_.out ?_
          refine one_ (i := 9) (N := some 20) (bm 12 1023) rfl rfl (one_of HT_.out (by kernel_rfl)) (by decide) (fun K hK => ?_)
          refine box_step ?hg (N := 20) ?hd (cs := #[.int .i64 0, .slice none 0 0, .slice none 0 0]) (t := 24) ?hr ?_; (case hd => rfl); (case hg => rfl); (case hr => first | (go_simp; done) | (go_simp; rfl))
          intro z3 hg zel hbox hb
          replace zc := bR zc hb
          replace zd := bR zd hb
          replace za := bR za hb
          replace zb := bR zb hb
          replace zz := bR zz hb
          replace zan := bR zan hb
          replace zao := bR zao hb
          have z1 := aM (hbox)
          have zay := gE (w := w) hg (qB3 HB zh zi zj)
          have z9 := zay
          replace HB := bS (qB3 HB zh zi zj) hb
          have zk := nL hg ze
          have zab := nG hg ze
          replace ze := bK ze hb
          have z5 := nL hg zg
          have zac := nG hg zg
          replace zg := bK zg hb
          have z6 := nL hg zf
          have zad := nG hg zf
          replace zf := bK zf hb
          clear hb hbox hg
          refine hK.out _ _ (h3 ze) (fun hHeld => ?_)
          clear hK K
          refine norm_ (a' := ?_) ?_ ?_
          rotate_left
          ·show Act.put _ (some 20) _ = _
           simp only [Act.put, sP, i64_w, i32_w]
           rfl
          exact norm_ (by simp only [putAll, Act.put, sP]) (hCont (zbg, .slice zdz za4.length zd0, za0, za1, z3) _ ⟨hHeld, (by (with_reducible repeat (first | apply rA | apply rN | apply rD)); exact Kd.R_mono zz.out (fun _ hk => ⟨hk.1.2, ⟨hk.2, ⟨hk.1.1.1, ⟨hk.1.1.2.1, ⟨hk.1.1.2.2.1, hk.1.1.2.2.2⟩⟩⟩⟩⟩)), (by (with_reducible repeat (first | apply rA | apply rN | apply rD)); exact Kd.R_mono zan.out (fun _ hk => ⟨hk.2, ⟨hk.1.1.1.1.1, ⟨hk.1.1.1.1.2, ⟨hk.1.1.1.2, ⟨hk.1.1.2, hk.1.2⟩⟩⟩⟩⟩)), (by (with_reducible repeat (first | apply rA | apply rN | apply rD)); exact Kd.R_mono zao.out (fun _ hk => ⟨hk.2, ⟨hk.1.1.1.1.1, ⟨hk.1.1.1.1.2, ⟨hk.1.1.1.2, ⟨hk.1.1.2, hk.1.2⟩⟩⟩⟩⟩)), (by (with_reducible repeat (first | apply rA | apply rN | apply rD)); exact Kd.R_mono zc.out (fun _ hk => ⟨hk.1.1.2, ⟨hk.1.2, ⟨hk.2, ⟨hk.1.1.1.1, ⟨hk.1.1.1.2.1, hk.1.1.1.2.2⟩⟩⟩⟩⟩)), (by (with_reducible repeat (first | apply rA | apply rN | apply rD)); exact Kd.R_mono zd.out (fun _ hk => ⟨hk.1.1.2, ⟨hk.1.2, ⟨hk.2, ⟨hk.1.1.1.1, ⟨hk.1.1.1.2.1, hk.1.1.1.2.2⟩⟩⟩⟩⟩)), (by (with_reducible repeat (first | apply rA | apply rN | apply rD)); exact Kd.R_mono za.out (fun _ hk => ⟨hk.1.1.2, ⟨hk.1.2, ⟨hk.2, ⟨hk.1.1.1.1, ⟨hk.1.1.1.2.1, hk.1.1.1.2.2⟩⟩⟩⟩⟩)), (by (with_reducible repeat (first | apply rA | apply rN | apply rD)); exact Kd.R_mono zb.out (fun _ hk => ⟨hk.1.1.2, ⟨hk.1.2, ⟨hk.2, ⟨hk.1.1.1.1, ⟨hk.1.1.1.2.1, hk.1.1.1.2.2⟩⟩⟩⟩⟩)), (pK ze.out), (pK zg.out), (pK zf.out), (pK z1.out), zay.out, z9.out, zk.out, zab.out, z5.out, zac.out, z6.out, zad.out, (qB4 HB zh zi zj z9)⟩)
         ·skip
          refine box_step ?hg (N := 20) ?hd (cs := #[.int .i64 0, .slice none 0 0, .slice none 0 0]) (t := 24) ?hr ?_; (case hd => rfl); (case hg => rfl); (case hr => first | (go_simp; done) | (go_simp; rfl))
          intro z3 hg zez hbox hb
          replace zc := bR zc hb
          replace zd := bR zd hb
          replace za := bR za hb
          replace zb := bR zb hb
          replace zz := bR zz hb
          have z1 := aM (hbox)
          have zay := gE (w := w) hg (qB3 HB zh zi zj)
          have z9 := zay
          replace HB := bS (qB3 HB zh zi zj) hb
          have zk := nL hg ze
          have zab := nG hg ze
          replace ze := bK ze hb
          have z5 := nL hg zg
          have zac := nG hg zg
          replace zg := bK zg hb
          have z6 := nL hg zf
          have zad := nG hg zf
          replace zf := bK zf hb
          clear hb hbox hg
          obtain ⟨zb5, zb6, zb7⟩ := Kd.R_slice zz.out
          (first | subst zb7 | (injection zb7 with f1_ f2_ f3_; have f4_ := f1_.symm; have f5_ := f3_.symm; clear f1_ f2_ f3_; subst f4_; subst f5_))
          refine hK.out _ _ (h3 ze) (fun hHeld => ?_)
          clear hK K
          refine norm_ (a' := ?_) ?_ ?_
          rotate_left
          ·show Act.put _ (some 20) _ = _
           simp only [Act.put, sP, i64_w, i32_w]
           rfl
          refine one_ (i := 5) (N := some 133) (bm 12 575) rfl rfl (one_of HT_.out (by kernel_rfl)) (by decide) (fun K hK => ?_)
          refine goes_ Try.func36 (by kernel_rfl) rfl #[.agg #[.int .i64 a0_0, .slice A0_1 l0_1.length c0_1, .slice A0_2 l0_2.length c0_2], .slice zb5 za4.length zb6] (by rfl) rfl rfl pA ?_
          with_reducible refine (view_Expand.calls zbd a0_0 _ _ l0_1 _ _ l0_2 _ _ za4 zbn zbo zbp zbf _ ?s1 ?s2 ?s3 ?s4 ?s5 ?s6 zcz.out).mono ?_
          (case s1 => exact sC zal HB)
          (case s2 => exact zav.out)
          (case s3 => exact sC zaw HB)
          (case s4 => exact zax.out)
          (case s5 => exact sR zz)
          (case s6 => exact sL zz)
          rintro e zel ⟨za0, za1, rfl, ho0, ho1, hb⟩
          refine ⟨_, rfl, ?_⟩
          have zan := aM (Kd.R_lower (Kd.R_new' (Kd.R_new' (Kd.R_new' (Kd.R_new' (Kd.R_new' ho0 (Kd.R_lt (pR zc.out))) (Kd.R_lt (pR zd.out))) (Kd.R_lt (pR za.out))) (Kd.R_lt (pR zb.out))) (Kd.R_lt (pR zz.out))) (below_size (qB4 HB zh zi zj z9)))
          have zao := aM (Kd.R_lower (Kd.R_new' (Kd.R_new' (Kd.R_new' (Kd.R_new' (Kd.R_new' ho1 (Kd.R_lt (pR zc.out))) (Kd.R_lt (pR zd.out))) (Kd.R_lt (pR za.out))) (Kd.R_lt (pR zb.out))) (Kd.R_lt (pR zz.out))) (below_size (qB4 HB zh zi zj z9)))
          replace zc := eR2 zc ho0 ho1 hb
          replace zd := eR2 zd ho0 ho1 hb
          replace za := eR2 za ho0 ho1 hb
          replace zb := eR2 zb ho0 ho1 hb
          replace zz := eR2 zz ho0 ho1 hb
          replace ze := bK ze hb
          replace zg := bK zg hb
          replace zf := bK zf hb
          replace z1 := bK z1 hb
          replace HB := bS (qB4 HB zh zi zj z9) hb
          (try clear hb)
          (try clear ho0)
          (try clear ho1)
          refine hK.out _ _ (h3 ze) (fun hHeld => ?_)
          clear hK K
          refine norm_ (a' := ?_) ?_ ?_
          rotate_left
          ·show Act.put _ (some 133) _ = _
           simp only [Act.put, sP, i64_w, i32_w]
           rfl
          refine pP (i := 6) (N := some 127) (bm 12 639) rfl rfl HT_.out ?_
          refine pP (i := 7) (N := some 134) (bm 12 767) rfl rfl HT_.out ?_
          refine pP (i := 8) (N := some 135) (bm 12 1023) rfl rfl HT_.out ?_
          exact norm_ (by simp only [putAll, Act.put, sP]) (hCont (zbg, .slice zb5 za4.length zb6, za0, za1, z3) _ ⟨hHeld, (by (with_reducible repeat (first | apply rA | apply rN | apply rD)); exact Kd.R_mono zz.out (fun _ hk => ⟨hk.1.2, ⟨hk.2, ⟨hk.1.1.1, ⟨hk.1.1.2.1, ⟨hk.1.1.2.2.1, hk.1.1.2.2.2⟩⟩⟩⟩⟩)), (by (with_reducible repeat (first | apply rA | apply rN | apply rD)); exact Kd.R_mono zan.out (fun _ hk => ⟨hk.2, ⟨hk.1.1.1.1.1, ⟨hk.1.1.1.1.2, ⟨hk.1.1.1.2, ⟨hk.1.1.2, hk.1.2⟩⟩⟩⟩⟩)), (by (with_reducible repeat (first | apply rA | apply rN | apply rD)); exact Kd.R_mono zao.out (fun _ hk => ⟨hk.2, ⟨hk.1.1.1.1.1, ⟨hk.1.1.1.1.2, ⟨hk.1.1.1.2, ⟨hk.1.1.2, hk.1.2⟩⟩⟩⟩⟩)), (by (with_reducible repeat (first | apply rA | apply rN | apply rD)); exact Kd.R_mono zc.out (fun _ hk => ⟨hk.1.1.2, ⟨hk.1.2, ⟨hk.2, ⟨hk.1.1.1.1, ⟨hk.1.1.1.2.1, hk.1.1.1.2.2⟩⟩⟩⟩⟩)), (by (with_reducible repeat (first | apply rA | apply rN | apply rD)); exact Kd.R_mono zd.out (fun _ hk => ⟨hk.1.1.2, ⟨hk.1.2, ⟨hk.2, ⟨hk.1.1.1.1, ⟨hk.1.1.1.2.1, hk.1.1.1.2.2⟩⟩⟩⟩⟩)), (by (with_reducible repeat (first | apply rA | apply rN | apply rD)); exact Kd.R_mono za.out (fun _ hk => ⟨hk.1.1.2, ⟨hk.1.2, ⟨hk.2, ⟨hk.1.1.1.1, ⟨hk.1.1.1.2.1, hk.1.1.1.2.2⟩⟩⟩⟩⟩)), (by (with_reducible repeat (first | apply rA | apply rN | apply rD)); exact Kd.R_mono zb.out (fun _ hk => ⟨hk.1.1.2, ⟨hk.1.2, ⟨hk.2, ⟨hk.1.1.1.1, ⟨hk.1.1.1.2.1, hk.1.1.1.2.2⟩⟩⟩⟩⟩)), (pK ze.out), (pK zg.out), (pK zf.out), (pK z1.out), zay.out, z9.out, zk.out, zab.out, z5.out, zac.out, z6.out, zad.out, (qB4 HB zh zi zj z9)⟩)
        ·skip
         refine box_step ?hg (N := 20) ?hd (cs := #[.int .i64 0, .slice none 0 0, .slice none 0 0]) (t := 24) ?hr ?_; (case hd => rfl); (case hg => rfl); (case hr => first | (go_simp; done) | (go_simp; rfl))
         intro z3 hg w140 hbox hb
         replace zc := bR zc hb
         replace zd := bR zd hb
         replace za := bR za hb
         replace zb := bR zb hb
         replace zaj := bR zaj hb
         have z1 := aM (hbox)
         have zay := gE (w := w) hg (qB3 HB zh zi zj)
         have z9 := zay
         replace HB := bS (qB3 HB zh zi zj) hb
         have zk := nL hg ze
         have zab := nG hg ze
         replace ze := bK ze hb
         have z5 := nL hg zg
         have zac := nG hg zg
         replace zg := bK zg hb
         have z6 := nL hg zf
         have zad := nG hg zf
         replace zf := bK zf hb
         clear hb hbox hg
         refine hK.out _ _ (h3 ze) (fun hHeld => ?_)
         clear hK K
         refine norm_ (a' := ?_) ?_ ?_
         rotate_left
         ·show Act.put _ (some 20) _ = _
          simp only [Act.put, sP, i64_w, i32_w]
          rfl
         refine one_ (i := 4) (N := some 132) (bm 12 543) rfl rfl (one_of HT_.out (by kernel_rfl)) (by decide) (fun K hK => ?_)
         refine Kd.R_append_rows_step (Kd.int .i64) (w0 := w) w.heap.size (by rfl) (.tmp 129) (.tmp 131) 22 3 (.int .i64 0) 8 rfl Try.underlying22 info3 rfl (by decide) (by omega) zbg zbv l0_1 _ _ _ (fun k_ => some k_ ≠ (.slice zw zo.length zu : Value).ownBlock ∧ some k_ ≠ (.slice zx zp.length zv : Value).ownBlock ∧ some k_ ≠ (.slice zq zm.length zr : Value).ownBlock ∧ some k_ ≠ (.slice zs zn.length zt : Value).ownBlock) (fun _ => False) rfl rfl ?aO ?aR (fun _ _ h => h) (fun _ h => h.elim) ?aF ?aB ?aS ?aL ?_
         (case aR => exact sC zal HB)
         (case aB => exact (qB4 HB zh zi zj z9))
         (case aF => exact (fun k_ hk => ⟨Kd.fresh' (Kd.R_lt (pR zc.out)) k_ hk, Kd.fresh' (Kd.R_lt (pR zd.out)) k_ hk, Kd.fresh' (Kd.R_lt (pR za.out)) k_ hk, Kd.fresh' (Kd.R_lt (pR zb.out)) k_ hk⟩))
         (case aO => exact (by (with_reducible repeat (first | apply rA | apply rN | apply rD)); exact Kd.R_mono zaj.out (fun _ hk => ⟨hk.1.1.1.2, ⟨hk.1.1.2, ⟨hk.1.2, hk.2⟩⟩⟩)))
         (case aS => exact (below_size (qB4 HB zh zi zj z9)))
         (case aL => have := zbz.out; omega)
         intro zbb zez ho hb hg hat
         rw [← zcn.out] at ho
         replace zc := aM (Kd.R_after (ok := (fun k_ => some k_ ≠ (.slice zx zp.length zv : Value).ownBlock ∧ some k_ ≠ (.slice zq zm.length zr : Value).ownBlock ∧ some k_ ≠ (.slice zs zn.length zt : Value).ownBlock)) (pR zc.out) hg hat)
         replace zd := aM (Kd.R_after (ok := (fun k_ => some k_ ≠ (.slice zw zo.length zu : Value).ownBlock ∧ some k_ ≠ (.slice zq zm.length zr : Value).ownBlock ∧ some k_ ≠ (.slice zs zn.length zt : Value).ownBlock)) (pR zd.out) hg hat)
         replace za := aM (Kd.R_after (ok := (fun k_ => some k_ ≠ (.slice zw zo.length zu : Value).ownBlock ∧ some k_ ≠ (.slice zx zp.length zv : Value).ownBlock ∧ some k_ ≠ (.slice zs zn.length zt : Value).ownBlock)) (pR za.out) hg hat)
         replace zb := aM (Kd.R_after (ok := (fun k_ => some k_ ≠ (.slice zw zo.length zu : Value).ownBlock ∧ some k_ ≠ (.slice zx zp.length zv : Value).ownBlock ∧ some k_ ≠ (.slice zq zm.length zr : Value).ownBlock)) (pR zb.out) hg hat)
         replace ze := aM (blk_grown (g := zy) (pK ze.out) hg (Kd.R_ne zaj.out ze.out (by decide)))
         replace zg := aM (blk_grown (g := zai) (pK zg.out) hg (Kd.R_ne zaj.out zg.out (by decide)))
         replace zf := aM (blk_grown (g := zah) (pK zf.out) hg (Kd.R_ne zaj.out zf.out (by decide)))
         replace z1 := aM (blk_grown (g := z3) (pK z1.out) hg (Kd.R_ne zaj.out z1.out (by decide)))
         replace HB := aM (hb)
         have zz := aM (ho)
         clear zaj
         clear ho hb hg hat
         obtain ⟨zb5, zb6, zb7⟩ := Kd.R_slice zz.out
         (first | subst zb7 | (injection zb7 with f1_ f2_ f3_; have f4_ := f1_.symm; have f5_ := f3_.symm; clear f1_ f2_ f3_; subst f4_; subst f5_))
         refine hK.out _ _ (h3 ze) (fun hHeld => ?_)
         clear hK K
         refine norm_ (a' := ?_) ?_ ?_
         rotate_left
         ·show Act.put _ (some 132) _ = _
          simp only [Act.put, sP, i64_w, i32_w]
          rfl
         refine one_ (i := 5) (N := some 133) (bm 12 575) rfl rfl (one_of HT_.out (by kernel_rfl)) (by decide) (fun K hK => ?_)
         refine goes_ Try.func36 (by kernel_rfl) rfl #[.agg #[.int .i64 a0_0, .slice A0_1 l0_1.length c0_1, .slice A0_2 l0_2.length c0_2], .slice zb5 za4.length zb6] (by rfl) rfl rfl pA ?_
         with_reducible refine (view_Expand.calls zbd a0_0 _ _ l0_1 _ _ l0_2 _ _ za4 zbn zbo zbp zbf _ ?s1 ?s2 ?s3 ?s4 ?s5 ?s6 zcz.out).mono ?_
         (case s1 => exact sC zal HB)
         (case s2 => exact zav.out)
         (case s3 => exact sC zaw HB)
         (case s4 => exact zax.out)
         (case s5 => exact sR zz)
         (case s6 => exact sL zz)
         rintro e zel ⟨za0, za1, rfl, ho0, ho1, hb⟩
         refine ⟨_, rfl, ?_⟩
         have zan := aM (Kd.R_lower (Kd.R_new' (Kd.R_new' (Kd.R_new' (Kd.R_new' (Kd.R_new' ho0 (Kd.R_lt (pR zc.out))) (Kd.R_lt (pR zd.out))) (Kd.R_lt (pR za.out))) (Kd.R_lt (pR zb.out))) (Kd.R_lt (pR zz.out))) (below_size (qB4 HB zh zi zj z9)))
         have zao := aM (Kd.R_lower (Kd.R_new' (Kd.R_new' (Kd.R_new' (Kd.R_new' (Kd.R_new' ho1 (Kd.R_lt (pR zc.out))) (Kd.R_lt (pR zd.out))) (Kd.R_lt (pR za.out))) (Kd.R_lt (pR zb.out))) (Kd.R_lt (pR zz.out))) (below_size (qB4 HB zh zi zj z9)))
         replace zc := eR2 zc ho0 ho1 hb
         replace zd := eR2 zd ho0 ho1 hb
         replace za := eR2 za ho0 ho1 hb
         replace zb := eR2 zb ho0 ho1 hb
         replace zz := eR2 zz ho0 ho1 hb
         replace ze := bK ze hb
         replace zg := bK zg hb
         replace zf := bK zf hb
         replace z1 := bK z1 hb
         replace HB := bS (qB4 HB zh zi zj z9) hb
         (try clear hb)
         (try clear hk)
         (try clear ho0)
         (try clear ho1)
         refine hK.out _ _ (h3 ze) (fun hHeld => ?_)
         clear hK K
         refine norm_ (a' := ?_) ?_ ?_
         rotate_left
         ·show Act.put _ (some 133) _ = _
          simp only [Act.put, sP, i64_w, i32_w]
          rfl
         refine pP (i := 6) (N := some 127) (bm 12 639) rfl rfl HT_.out ?_
         refine pP (i := 7) (N := some 134) (bm 12 767) rfl rfl HT_.out ?_
         refine pP (i := 8) (N := some 135) (bm 12 1023) rfl rfl HT_.out ?_
         exact norm_ (by simp only [putAll, Act.put, sP]) (hCont (zbg, .slice zb5 za4.length zb6, za0, za1, z3) _ ⟨hHeld, (by (with_reducible repeat (first | apply rA | apply rN | apply rD)); exact Kd.R_mono zz.out (fun _ hk => ⟨hk.1.2, ⟨hk.2, ⟨hk.1.1.1, ⟨hk.1.1.2.1, ⟨hk.1.1.2.2.1, hk.1.1.2.2.2⟩⟩⟩⟩⟩)), (by (with_reducible repeat (first | apply rA | apply rN | apply rD)); exact Kd.R_mono zan.out (fun _ hk => ⟨hk.2, ⟨hk.1.1.1.1.1, ⟨hk.1.1.1.1.2, ⟨hk.1.1.1.2, ⟨hk.1.1.2, hk.1.2⟩⟩⟩⟩⟩)), (by (with_reducible repeat (first | apply rA | apply rN | apply rD)); exact Kd.R_mono zao.out (fun _ hk => ⟨hk.2, ⟨hk.1.1.1.1.1, ⟨hk.1.1.1.1.2, ⟨hk.1.1.1.2, ⟨hk.1.1.2, hk.1.2⟩⟩⟩⟩⟩)), (by (with_reducible repeat (first | apply rA | apply rN | apply rD)); exact Kd.R_mono zc.out (fun _ hk => ⟨hk.1.1.2, ⟨hk.1.2, ⟨hk.2, ⟨hk.1.1.1.1, ⟨hk.1.1.1.2.1, hk.1.1.1.2.2⟩⟩⟩⟩⟩)), (by (with_reducible repeat (first | apply rA | apply rN | apply rD)); exact Kd.R_mono zd.out (fun _ hk => ⟨hk.1.1.2, ⟨hk.1.2, ⟨hk.2, ⟨hk.1.1.1.1, ⟨hk.1.1.1.2.1, hk.1.1.1.2.2⟩⟩⟩⟩⟩)), (by (with_reducible repeat (first | apply rA | apply rN | apply rD)); exact Kd.R_mono za.out (fun _ hk => ⟨hk.1.1.2, ⟨hk.1.2, ⟨hk.2, ⟨hk.1.1.1.1, ⟨hk.1.1.1.2.1, hk.1.1.1.2.2⟩⟩⟩⟩⟩)), (by (with_reducible repeat (first | apply rA | apply rN | apply rD)); exact Kd.R_mono zb.out (fun _ hk => ⟨hk.1.1.2, ⟨hk.1.2, ⟨hk.2, ⟨hk.1.1.1.1, ⟨hk.1.1.1.2.1, hk.1.1.1.2.2⟩⟩⟩⟩⟩)), (pK ze.out), (pK zg.out), (pK zf.out), (pK z1.out), zay.out, z9.out, zk.out, zab.out, z5.out, zac.out, z6.out, zad.out, (qB4 HB zh zi zj z9)⟩)
       ·skip
        refine box_step ?hg (N := 20) ?hd (cs := #[.int .i64 0, .slice none 0 0, .slice none 0 0]) (t := 24) ?hr ?_; (case hd => rfl); (case hg => rfl); (case hr => first | (go_simp; done) | (go_simp; rfl))
        intro z3 hg w138 hbox hb
        replace zc := bR zc hb
        replace zd := bR zd hb
        replace za := bR za hb
        replace zb := bR zb hb
        have z1 := aM (hbox)
        have zay := gE (w := w) hg (qB3 HB zh zi zj)
        have z9 := zay
        replace HB := bS (qB3 HB zh zi zj) hb
        have zk := nL hg ze
        have zab := nG hg ze
        replace ze := bK ze hb
        have z5 := nL hg zg
        have zac := nG hg zg
        replace zg := bK zg hb
        have z6 := nL hg zf
        have zad := nG hg zf
        replace zf := bK zf hb
        clear hb hbox hg
        refine hK.out _ _ (h3 ze) (fun hHeld => ?_)
        clear hK K
        refine norm_ (a' := ?_) ?_ ?_
        rotate_left
        ·show Act.put _ (some 20) _ = _
         simp only [Act.put, sP, i64_w, i32_w]
         rfl
        refine one_ (i := 1) (N := some 129) (bm 12 527) rfl rfl (one_of HT_.out (by kernel_rfl)) (by decide) (fun K hK => ?_)
        refine Kd.R_lit_step (Kd.int .i64) _ 3 ?hg (N := 129) ?hd (xs := ([2] : List Int)) (inner := [.int .i64 2]) (ok := fun _ => True) (okp := fun _ => True) ?hr ?hp (fun _ hk => hk) trivial (Below.refl _ _) (Nat.le_refl _) (by simp) ?_; (case hd => rfl); (case hg => rfl); (case hr => first | (go_simp; done) | (go_simp; rfl)); (case hp => exact (Reps.one (show Kd.M (Kd.int .i64) _ _ _ 2 [.int .i64 2] from rfl) (Reps.none _ _)))
        intro zbg w139 ho140 hb hg_ hnew_
        clear hg_ hnew_
        (first | rw [← zb1.out] at ho140 | (simp only [Int.reduceToNat] at ho140; rw [← zb1.out] at ho140))
        have zaj := aM (Kd.R_lower (Kd.R_new' (Kd.R_new' (Kd.R_new' (Kd.R_new' ho140 (Kd.R_lt (pR zc.out))) (Kd.R_lt (pR zd.out))) (Kd.R_lt (pR za.out))) (Kd.R_lt (pR zb.out))) (below_size (qB4 HB zh zi zj z9)))
        replace zc := eR zc ho140 hb
        replace zd := eR zd ho140 hb
        replace za := eR za ho140 hb
        replace zb := eR zb ho140 hb
        replace ze := bK ze hb
        replace zg := bK zg hb
        replace zf := bK zf hb
        replace z1 := bK z1 hb
        replace HB := bS (qB4 HB zh zi zj z9) hb
        clear hb ho140
        refine hK.out _ _ (h3 ze) (fun hHeld => ?_)
        clear hK K
        refine norm_ (a' := ?_) ?_ ?_
        rotate_left
        ·show Act.put _ (some 129) _ = _
         simp only [Act.put, sP, i64_w, i32_w]
         rfl
        refine one_ (i := 4) (N := some 132) (bm 12 543) rfl rfl (one_of HT_.out (by kernel_rfl)) (by decide) (fun K hK => ?_)
        refine Kd.R_append_rows_step (Kd.int .i64) (w0 := w) w.heap.size (by rfl) (.tmp 129) (.tmp 131) 22 3 (.int .i64 0) 8 rfl Try.underlying22 info3 rfl (by decide) (by omega) zbg zbv l0_1 _ _ _ (fun k_ => some k_ ≠ (.slice zw zo.length zu : Value).ownBlock ∧ some k_ ≠ (.slice zx zp.length zv : Value).ownBlock ∧ some k_ ≠ (.slice zq zm.length zr : Value).ownBlock ∧ some k_ ≠ (.slice zs zn.length zt : Value).ownBlock) (fun _ => False) rfl rfl ?aO ?aR (fun _ _ h => h) (fun _ h => h.elim) ?aF ?aB ?aS ?aL ?_
        (case aR => exact sC zal HB)
        (case aB => exact (qB4 HB zh zi zj z9))
        (case aF => exact (fun k_ hk => ⟨Kd.fresh' (Kd.R_lt (pR zc.out)) k_ hk, Kd.fresh' (Kd.R_lt (pR zd.out)) k_ hk, Kd.fresh' (Kd.R_lt (pR za.out)) k_ hk, Kd.fresh' (Kd.R_lt (pR zb.out)) k_ hk⟩))
        (case aO => exact (by (with_reducible repeat (first | apply rA | apply rN | apply rD)); exact Kd.R_mono zaj.out (fun _ hk => ⟨hk.1.1.1.2, ⟨hk.1.1.2, ⟨hk.1.2, hk.2⟩⟩⟩)))
        (case aS => exact (below_size (qB4 HB zh zi zj z9)))
        (case aL => have := zbz.out; omega)
        intro zbb zez ho hb hg hat
        rw [← zcn.out] at ho
        replace zc := aM (Kd.R_after (ok := (fun k_ => some k_ ≠ (.slice zx zp.length zv : Value).ownBlock ∧ some k_ ≠ (.slice zq zm.length zr : Value).ownBlock ∧ some k_ ≠ (.slice zs zn.length zt : Value).ownBlock)) (pR zc.out) hg hat)
        replace zd := aM (Kd.R_after (ok := (fun k_ => some k_ ≠ (.slice zw zo.length zu : Value).ownBlock ∧ some k_ ≠ (.slice zq zm.length zr : Value).ownBlock ∧ some k_ ≠ (.slice zs zn.length zt : Value).ownBlock)) (pR zd.out) hg hat)
        replace za := aM (Kd.R_after (ok := (fun k_ => some k_ ≠ (.slice zw zo.length zu : Value).ownBlock ∧ some k_ ≠ (.slice zx zp.length zv : Value).ownBlock ∧ some k_ ≠ (.slice zs zn.length zt : Value).ownBlock)) (pR za.out) hg hat)
        replace zb := aM (Kd.R_after (ok := (fun k_ => some k_ ≠ (.slice zw zo.length zu : Value).ownBlock ∧ some k_ ≠ (.slice zx zp.length zv : Value).ownBlock ∧ some k_ ≠ (.slice zq zm.length zr : Value).ownBlock)) (pR zb.out) hg hat)
        replace ze := aM (blk_grown (g := zy) (pK ze.out) hg (Kd.R_ne zaj.out ze.out (by decide)))
        replace zg := aM (blk_grown (g := zai) (pK zg.out) hg (Kd.R_ne zaj.out zg.out (by decide)))
        replace zf := aM (blk_grown (g := zah) (pK zf.out) hg (Kd.R_ne zaj.out zf.out (by decide)))
        replace z1 := aM (blk_grown (g := z3) (pK z1.out) hg (Kd.R_ne zaj.out z1.out (by decide)))
        replace HB := aM (hb)
        have zz := aM (ho)
        clear zaj
        clear ho hb hg hat
        obtain ⟨zb5, zb6, zb7⟩ := Kd.R_slice zz.out
        (first | subst zb7 | (injection zb7 with f1_ f2_ f3_; have f4_ := f1_.symm; have f5_ := f3_.symm; clear f1_ f2_ f3_; subst f4_; subst f5_))
        refine hK.out _ _ (h3 ze) (fun hHeld => ?_)
        clear hK K
        refine norm_ (a' := ?_) ?_ ?_
        rotate_left
        ·show Act.put _ (some 132) _ = _
         simp only [Act.put, sP, i64_w, i32_w]
         rfl
        refine one_ (i := 5) (N := some 133) (bm 12 575) rfl rfl (one_of HT_.out (by kernel_rfl)) (by decide) (fun K hK => ?_)
        refine goes_ Try.func36 (by kernel_rfl) rfl #[.agg #[.int .i64 a0_0, .slice A0_1 l0_1.length c0_1, .slice A0_2 l0_2.length c0_2], .slice zb5 za4.length zb6] (by rfl) rfl rfl pA ?_
        with_reducible refine (view_Expand.calls zbd a0_0 _ _ l0_1 _ _ l0_2 _ _ za4 zbn zbo zbp zbf _ ?s1 ?s2 ?s3 ?s4 ?s5 ?s6 zcz.out).mono ?_
        (case s1 => exact sC zal HB)
        (case s2 => exact zav.out)
        (case s3 => exact sC zaw HB)
        (case s4 => exact zax.out)
        (case s5 => exact sR zz)
        (case s6 => exact sL zz)
        rintro e zel ⟨za0, za1, rfl, ho0, ho1, hb⟩
        refine ⟨_, rfl, ?_⟩
        have zan := aM (Kd.R_lower (Kd.R_new' (Kd.R_new' (Kd.R_new' (Kd.R_new' (Kd.R_new' ho0 (Kd.R_lt (pR zc.out))) (Kd.R_lt (pR zd.out))) (Kd.R_lt (pR za.out))) (Kd.R_lt (pR zb.out))) (Kd.R_lt (pR zz.out))) (below_size (qB4 HB zh zi zj z9)))
        have zao := aM (Kd.R_lower (Kd.R_new' (Kd.R_new' (Kd.R_new' (Kd.R_new' (Kd.R_new' ho1 (Kd.R_lt (pR zc.out))) (Kd.R_lt (pR zd.out))) (Kd.R_lt (pR za.out))) (Kd.R_lt (pR zb.out))) (Kd.R_lt (pR zz.out))) (below_size (qB4 HB zh zi zj z9)))
        replace zc := eR2 zc ho0 ho1 hb
        replace zd := eR2 zd ho0 ho1 hb
        replace za := eR2 za ho0 ho1 hb
        replace zb := eR2 zb ho0 ho1 hb
        replace zz := eR2 zz ho0 ho1 hb
        replace ze := bK ze hb
        replace zg := bK zg hb
        replace zf := bK zf hb
        replace z1 := bK z1 hb
        replace HB := bS (qB4 HB zh zi zj z9) hb
        (try clear hb)
        (try clear hk)
        (try clear ho0)
        (try clear ho1)
        refine hK.out _ _ (h3 ze) (fun hHeld => ?_)
        clear hK K
        refine norm_ (a' := ?_) ?_ ?_
        rotate_left
        ·show Act.put _ (some 133) _ = _
         simp only [Act.put, sP, i64_w, i32_w]
         rfl
        refine pP (i := 6) (N := some 127) (bm 12 639) rfl rfl HT_.out ?_
        refine pP (i := 7) (N := some 134) (bm 12 767) rfl rfl HT_.out ?_
        refine pP (i := 8) (N := some 135) (bm 12 1023) rfl rfl HT_.out ?_
        exact norm_ (by simp only [putAll, Act.put, sP]) (hCont (zbg, .slice zb5 za4.length zb6, za0, za1, z3) _ ⟨hHeld, (by (with_reducible repeat (first | apply rA | apply rN | apply rD)); exact Kd.R_mono zz.out (fun _ hk => ⟨hk.1.2, ⟨hk.2, ⟨hk.1.1.1, ⟨hk.1.1.2.1, ⟨hk.1.1.2.2.1, hk.1.1.2.2.2⟩⟩⟩⟩⟩)), (by (with_reducible repeat (first | apply rA | apply rN | apply rD)); exact Kd.R_mono zan.out (fun _ hk => ⟨hk.2, ⟨hk.1.1.1.1.1, ⟨hk.1.1.1.1.2, ⟨hk.1.1.1.2, ⟨hk.1.1.2, hk.1.2⟩⟩⟩⟩⟩)), (by (with_reducible repeat (first | apply rA | apply rN | apply rD)); exact Kd.R_mono zao.out (fun _ hk => ⟨hk.2, ⟨hk.1.1.1.1.1, ⟨hk.1.1.1.1.2, ⟨hk.1.1.1.2, ⟨hk.1.1.2, hk.1.2⟩⟩⟩⟩⟩)), (by (with_reducible repeat (first | apply rA | apply rN | apply rD)); exact Kd.R_mono zc.out (fun _ hk => ⟨hk.1.1.2, ⟨hk.1.2, ⟨hk.2, ⟨hk.1.1.1.1, ⟨hk.1.1.1.2.1, hk.1.1.1.2.2⟩⟩⟩⟩⟩)), (by (with_reducible repeat (first | apply rA | apply rN | apply rD)); exact Kd.R_mono zd.out (fun _ hk => ⟨hk.1.1.2, ⟨hk.1.2, ⟨hk.2, ⟨hk.1.1.1.1, ⟨hk.1.1.1.2.1, hk.1.1.1.2.2⟩⟩⟩⟩⟩)), (by (with_reducible repeat (first | apply rA | apply rN | apply rD)); exact Kd.R_mono za.out (fun _ hk => ⟨hk.1.1.2, ⟨hk.1.2, ⟨hk.2, ⟨hk.1.1.1.1, ⟨hk.1.1.1.2.1, hk.1.1.1.2.2⟩⟩⟩⟩⟩)), (by (with_reducible repeat (first | apply rA | apply rN | apply rD)); exact Kd.R_mono zb.out (fun _ hk => ⟨hk.1.1.2, ⟨hk.1.2, ⟨hk.2, ⟨hk.1.1.1.1, ⟨hk.1.1.1.2.1, hk.1.1.1.2.2⟩⟩⟩⟩⟩)), (pK ze.out), (pK zg.out), (pK zf.out), (pK z1.out), zay.out, z9.out, zk.out, zab.out, z5.out, zac.out, z6.out, zad.out, (qB4 HB zh zi zj z9)⟩)
      rintro ⟨zbg, zbb, za0, za1, z3⟩ zbk ⟨hS_, h0_, h1_, h2_, h3_, h4_, h5_, h6_, h7_, h8_, h9_, h10_, h11_, h12_, h13_, h14_, h15_, h16_, h17_, h18_, h19_⟩
      have n0_ : Aside0 (Kd.R (Kd.int .i64) 3 zbk w.heap.size (fun k_ => some k_ ≠ (za0 : Value).ownBlock ∧ some k_ ≠ (za1 : Value).ownBlock ∧ some k_ ≠ (.slice zw zo.length zu : Value).ownBlock ∧ some k_ ≠ (.slice zx zp.length zv : Value).ownBlock ∧ some k_ ≠ (.slice zq zm.length zr : Value).ownBlock ∧ some k_ ≠ (.slice zs zn.length zt : Value).ownBlock) zbb za4) := ⟨h0_⟩
      have n1_ : Aside0 (Kd.R (Kd.int .i64) 3 zbk w.heap.size (fun k_ => some k_ ≠ (zbb : Value).ownBlock ∧ some k_ ≠ (za1 : Value).ownBlock ∧ some k_ ≠ (.slice zw zo.length zu : Value).ownBlock ∧ some k_ ≠ (.slice zx zp.length zv : Value).ownBlock ∧ some k_ ≠ (.slice zq zm.length zr : Value).ownBlock ∧ some k_ ≠ (.slice zs zn.length zt : Value).ownBlock) za0 zbo) := ⟨h1_⟩
      have n2_ : Aside0 (Kd.R (Kd.int .i64) 3 zbk w.heap.size (fun k_ => some k_ ≠ (zbb : Value).ownBlock ∧ some k_ ≠ (za0 : Value).ownBlock ∧ some k_ ≠ (.slice zw zo.length zu : Value).ownBlock ∧ some k_ ≠ (.slice zx zp.length zv : Value).ownBlock ∧ some k_ ≠ (.slice zq zm.length zr : Value).ownBlock ∧ some k_ ≠ (.slice zs zn.length zt : Value).ownBlock) za1 zbp) := ⟨h2_⟩
      have n3_ : Aside0 (Kd.R (Kd.int .i64) 3 zbk w.heap.size (fun k_ => some k_ ≠ (zbb : Value).ownBlock ∧ some k_ ≠ (za0 : Value).ownBlock ∧ some k_ ≠ (za1 : Value).ownBlock ∧ some k_ ≠ (.slice zx zp.length zv : Value).ownBlock ∧ some k_ ≠ (.slice zq zm.length zr : Value).ownBlock ∧ some k_ ≠ (.slice zs zn.length zt : Value).ownBlock) (.slice zw zo.length zu) zo) := ⟨h3_⟩
      have n4_ : Aside0 (Kd.R (Kd.int .i64) 3 zbk w.heap.size (fun k_ => some k_ ≠ (zbb : Value).ownBlock ∧ some k_ ≠ (za0 : Value).ownBlock ∧ some k_ ≠ (za1 : Value).ownBlock ∧ some k_ ≠ (.slice zw zo.length zu : Value).ownBlock ∧ some k_ ≠ (.slice zq zm.length zr : Value).ownBlock ∧ some k_ ≠ (.slice zs zn.length zt : Value).ownBlock) (.slice zx zp.length zv) zp) := ⟨h4_⟩
      have n5_ : Aside0 (Kd.R (Kd.int .i64) 3 zbk w.heap.size (fun k_ => some k_ ≠ (zbb : Value).ownBlock ∧ some k_ ≠ (za0 : Value).ownBlock ∧ some k_ ≠ (za1 : Value).ownBlock ∧ some k_ ≠ (.slice zw zo.length zu : Value).ownBlock ∧ some k_ ≠ (.slice zx zp.length zv : Value).ownBlock ∧ some k_ ≠ (.slice zs zn.length zt : Value).ownBlock) (.slice zq zm.length zr) zm) := ⟨h5_⟩
      have n6_ : Aside0 (Kd.R (Kd.int .i64) 3 zbk w.heap.size (fun k_ => some k_ ≠ (zbb : Value).ownBlock ∧ some k_ ≠ (za0 : Value).ownBlock ∧ some k_ ≠ (za1 : Value).ownBlock ∧ some k_ ≠ (.slice zw zo.length zu : Value).ownBlock ∧ some k_ ≠ (.slice zx zp.length zv : Value).ownBlock ∧ some k_ ≠ (.slice zq zm.length zr : Value).ownBlock) (.slice zs zn.length zt) zn) := ⟨h6_⟩
      have n7_ : Aside0 (zbk.heap[zy]? = some (.cells #[.int .i64 a0_0, .slice A0_1 l0_1.length c0_1, .slice A0_2 l0_2.length c0_2] 24 (0, 0))) := ⟨h7_⟩
      have n8_ : Aside0 (zbk.heap[zai]? = some (.cells #[.int .i64 zba, .slice zw zo.length zu, .slice zx zp.length zv] 24 (0, 0))) := ⟨h8_⟩
      have n9_ : Aside0 (zbk.heap[zah]? = some (.cells #[.int .i64 za8, .slice zq zm.length zr, .slice zs zn.length zt] 24 (0, 0))) := ⟨h9_⟩
      have n10_ : Aside0 (zbk.heap[z3]? = some (.cells #[.int .i64 0, .slice none 0 0, .slice none 0 0] 24 (0, 0))) := ⟨h10_⟩
      have n11_ : Aside0 (w.heap.size ≤ z3) := ⟨h11_⟩
      have n12_ : Aside0 (w.heap.size ≤ z3) := ⟨h12_⟩
      have n13_ : Aside0 (zy ≠ z3) := ⟨h13_⟩
      have n14_ : Aside0 (z3 ≠ zy) := ⟨h14_⟩
      have n15_ : Aside0 (zai ≠ z3) := ⟨h15_⟩
      have n16_ : Aside0 (z3 ≠ zai) := ⟨h16_⟩
      have n17_ : Aside0 (zah ≠ z3) := ⟨h17_⟩
      have n18_ : Aside0 (z3 ≠ zah) := ⟨h18_⟩
      have n19_ : Aside0 (Below w.heap.size w zbk) := ⟨h19_⟩
      clear zc
      clear zd
      clear za
      clear zb
      clear ze
      clear zg
      clear zf
      clear HB
      clear h0_ h1_ h2_ h3_ h4_ h5_ h6_ h7_ h8_ h9_ h10_ h11_ h12_ h13_ h14_ h15_ h16_ h17_ h18_ h19_
      have zz := n0_
      have zan := n1_
      have zao := n2_
      have zc := n3_
      have zd := n4_
      have za := n5_
      have zb := n6_
      have ze := n7_
      have zg := n8_
      have zf := n9_
      have z1 := n10_
      have zay := n11_
      have z9 := n12_
      have zk := n13_
      have zab := n14_
      have z5 := n15_
      have zac := n16_
      have z6 := n17_
      have zad := n18_
      have HB := n19_
      clear n0_ n1_ n2_ n3_ n4_ n5_ n6_ n7_ n8_ n9_ n10_ n11_ n12_ n13_ n14_ n15_ n16_ n17_ n18_ n19_
      have hHeld : zbk.cell? ⟨zy, 0, none⟩ = some (.int .i64 a0_0) ∧ zbk.cell? ⟨zy, 1, none⟩ = some (.slice A0_1 l0_1.length c0_1) ∧ zbk.cell? ⟨zy, 2, none⟩ = some (.slice A0_2 l0_2.length c0_2) := hS_
      obtain ⟨zd2, zdi, zd3⟩ := Kd.R_slice zan.out
      (first | subst zd3 | (injection zd3 with f1_ f2_ f3_; have f4_ := f1_.symm; have f5_ := f3_.symm; clear f1_ f2_ f3_; subst f4_; subst f5_))
      obtain ⟨zd4, zdj, zd5⟩ := Kd.R_slice zao.out
      (first | subst zd5 | (injection zd5 with f1_ f2_ f3_; have f4_ := f1_.symm; have f5_ := f3_.symm; clear f1_ f2_ f3_; subst f4_; subst f5_))
      refine norm_ (a' := ?_) ?_ ?_
      rotate_left
      ·simp only [putAll, Act.put, sP]
       rfl
      refine one_ (i := 10) (N := none) (bm 12 2047) rfl rfl (one_of HT_.out (by kernel_rfl)) (by decide) (fun K hK => ?_)
      have hs145 : zbk.cell? ⟨z3, 0, none⟩ = some (.int .i64 0) := (blk_cell z1.out 0).trans rfl
      have hfs145 := blk_frozen z1.out 0
      have hns145_0 := zk.out
      have hns145_1 := z5.out
      have hns145_2 := z6.out
      have hms145_0 := zab.out
      have hms145_1 := zac.out
      have hms145_2 := zad.out
      have hs147 : zbk.cell? ⟨z3, 1, none⟩ = some (.slice none 0 0) := (blk_cell z1.out 1).trans rfl
      have hfs147 := blk_frozen z1.out 1
      have hns147_0 := zk.out
      have hns147_1 := z5.out
      have hns147_2 := z6.out
      have hms147_0 := zab.out
      have hms147_1 := zac.out
      have hms147_2 := zad.out
      have hs149 : zbk.cell? ⟨z3, 2, none⟩ = some (.slice none 0 0) := (blk_cell z1.out 2).trans rfl
      have hfs149 := blk_frozen z1.out 2
      have hns149_0 := zk.out
      have hns149_1 := z5.out
      have hns149_2 := z6.out
      have hms149_0 := zab.out
      have hms149_1 := zac.out
      have hms149_2 := zad.out
      refine skip_ (w1 := ?_) (by rfl) rfl ?_ ?_
      rotate_left
      ·go_simp
       rfl
      refine hK.out _ _ ⟨((cell_far (p := ⟨z3, _, none⟩) zk.out _).trans (((cell_far (p := ⟨z3, _, none⟩) zk.out _).trans (((cell_far (p := ⟨z3, _, none⟩) zk.out _).trans (hHeld.1)))))), ((cell_far (p := ⟨z3, _, none⟩) zk.out _).trans (((cell_far (p := ⟨z3, _, none⟩) zk.out _).trans (((cell_far (p := ⟨z3, _, none⟩) zk.out _).trans (hHeld.2.1)))))), ((cell_far (p := ⟨z3, _, none⟩) zk.out _).trans (((cell_far (p := ⟨z3, _, none⟩) zk.out _).trans (((cell_far (p := ⟨z3, _, none⟩) zk.out _).trans (hHeld.2.2))))))⟩ (fun hHeld => ?_)
      clear hK K
      refine pP (i := 11) (N := some 21) (bm 12 4095) rfl rfl HT_.out ?_
      refine done_ (done_of HT_.out (by kernel_rfl)) ?_
      have hnb150 := zab.out
      have hnc150 := zk.out
      have hnb151 := zac.out
      have hnc151 := z5.out
      have hnb152 := zad.out
      have hnc152 := z6.out
      obtain ⟨hcz153_0, hcz153_1, hcz153_2, hfz153_0, hfz153_1, hfz153_2⟩ := blk3 z1.out
      try go_wp2_with (first | (go_at_call 30; (with_reducible refine (cells_Once.calls zbd zbn _ _ zbo _ _ zbp false _ ?s1 ?s2 ?s3 ?s4 A134.out).mono ?_); (case s1 => refine (Kd.R_reads' (e := 3) (base := w.heap.size) (ok := fun k_ => (some k_ ≠ (zbb : Value).ownBlock ∧ (some k_ ≠ (.slice zd4 zbp.length zdj : Value).ownBlock ∧ (some k_ ≠ (.slice zw zo.length zu : Value).ownBlock ∧ (some k_ ≠ (.slice zx zp.length zv : Value).ownBlock ∧ (some k_ ≠ (.slice zq zm.length zr : Value).ownBlock ∧ some k_ ≠ (.slice zs zn.length zt : Value).ownBlock)))))) (n := zbo.length) (c := zdi) ?_).2.2; exact (by (with_reducible repeat (first | apply rA | apply rN | apply rD)); exact (F3 zan z1 (fun _ h_ => h_.1)))); (case s2 => exact sL zan); (case s3 => refine (Kd.R_reads' (e := 3) (base := w.heap.size) (ok := fun k_ => (some k_ ≠ (zbb : Value).ownBlock ∧ (some k_ ≠ (.slice zd2 zbo.length zdi : Value).ownBlock ∧ (some k_ ≠ (.slice zw zo.length zu : Value).ownBlock ∧ (some k_ ≠ (.slice zx zp.length zv : Value).ownBlock ∧ (some k_ ≠ (.slice zq zm.length zr : Value).ownBlock ∧ some k_ ≠ (.slice zs zn.length zt : Value).ownBlock)))))) (n := zbp.length) (c := zdj) ?_).2.2; exact (by (with_reducible repeat (first | apply rA | apply rN | apply rD)); exact (F3 zao z1 (fun _ h_ => h_.1)))); (case s4 => exact sL zao); rintro e w154 ⟨rfl, hb⟩; replace zc := aM (Kd.R_below (by (with_reducible repeat (first | apply rA | apply rN | apply rD)); exact (F3 zc z1 (fun _ h_ => h_.1))) hb); replace zd := aM (Kd.R_below (by (with_reducible repeat (first | apply rA | apply rN | apply rD)); exact (F3 zd z1 (fun _ h_ => h_.1))) hb); replace za := aM (Kd.R_below (by (with_reducible repeat (first | apply rA | apply rN | apply rD)); exact (F3 za z1 (fun _ h_ => h_.1))) hb); replace zb := aM (Kd.R_below (by (with_reducible repeat (first | apply rA | apply rN | apply rD)); exact (F3 zb z1 (fun _ h_ => h_.1))) hb); replace zz := aM (Kd.R_below (by (with_reducible repeat (first | apply rA | apply rN | apply rD)); exact (F3 zz z1 (fun _ h_ => h_.1))) hb); replace zan := aM (Kd.R_below (by (with_reducible repeat (first | apply rA | apply rN | apply rD)); exact (F3 zan z1 (fun _ h_ => h_.1))) hb); replace zao := aM (Kd.R_below (by (with_reducible repeat (first | apply rA | apply rN | apply rD)); exact (F3 zao z1 (fun _ h_ => h_.1))) hb); replace ze := aM (blk_below (g := zy) (o := .cells #[.int .i64 a0_0, .slice A0_1 l0_1.length c0_1, .slice A0_2 l0_2.length c0_2] 24 (0, 0)) (by refine B3 zk ?_; exact ze.out) hb); replace zg := aM (blk_below (g := zai) (o := .cells #[.int .i64 zba, .slice zw zo.length zu, .slice zx zp.length zv] 24 (0, 0)) (by refine B3 z5 ?_; exact zg.out) hb); replace zf := aM (blk_below (g := zah) (o := .cells #[.int .i64 za8, .slice zq zm.length zr, .slice zs zn.length zt] 24 (0, 0)) (by refine B3 z6 ?_; exact zf.out) hb); replace z1 := aM (blk_below (g := z3) (o := .cells #[.int .i64 zbn, .slice zd2 zbo.length zdi, .slice zd4 zbp.length zdj] 24 (0, 0)) (by exact P3 z1) hb); replace HB := bS (qB4 HB zh zi zj z9) hb; (try clear hb); (try clear hk); (try clear hi)) | (go_at_call 26; (with_reducible refine (gradinelaw23_same.calls  zc2 _ A136.out).mono ?_); rintro e w155 ⟨rfl, hb⟩; replace zc := bR zc hb; replace zd := bR zd hb; replace za := bR za hb; replace zb := bR zb hb; replace zz := bR zz hb; replace zan := bR zan hb; replace zao := bR zao hb; replace ze := bK ze hb; replace zg := bK zg hb; replace zf := bK zf hb; replace z1 := bK z1 hb; replace HB := bS (qB4 HB zh zi zj z9) hb; (try clear hb); (try clear hk); (try clear hi)))
      go_ret
      replace hv_ := hv_.out
      exact ⟨pE, qB4 HB zh zi zj z9⟩
     rw [if_pos c62] at H
     have c62b0 : (zc7 == 0) = true := beq_iff_eq.mpr c62
     have c62b1 : (zc7 != 0) = false := bne_eq_false_iff_eq.mpr c62
     clear c62
     replace H := Option.bind_eq_some_iff.mp H
     obtain ⟨⟨zdc, zdd, zcu⟩, ze0, H⟩ := H
     try dsimp only at H
     have A63 := aM ze0
     clear ze0
     have HC64 := aM H
     clear H
     have hnb65 := zcm.out
     have hnc65 := zbt.out
     have hnb66 := zby.out
     have hnc66 := zbe.out
     obtain ⟨hcz67_0, hcz67_1, hcz67_2, hfz67_0, hfz67_1, hfz67_2⟩ := blk3 zf.out
     go_upto_region 12 with (first | ((with_reducible refine gate_callee (f := 27) rfl ?_); refine goesL_ (some 94) rfl rfl Try.func27 (by kernel_rfl) rfl #[.agg #[.int .i64 za8, .slice zq zm.length zr, .slice zs zn.length zt]] rfl pA ?_; (with_reducible refine (cells_Span.calls zbd za8 _ _ zm _ _ zn zdc zdd zcu _ ?s1 ?s2 ?s3 ?s4 A63.out).mono ?_); (case s1 => exact sR za); (case s2 => exact sL za); (case s3 => exact sR zb); (case s4 => exact sL zb); rintro e w68 ⟨rfl, hb⟩; refine ⟨_, rfl, ?_⟩; replace zc := bR zc hb; replace zd := bR zd hb; replace za := bR za hb; replace zb := bR zb hb; replace ze := bK ze hb; replace zg := bK zg hb; replace zf := bK zf hb; replace HB := bS (qB3 HB zh zi zj) hb; (try clear hb); (try clear hk); (try clear hi)))
     (try simp only [Act.put, sP])
     go_cut [126] (fun v126 wc => ∃ (kq : Nat) (zci : Bool), v126 = .bool zci ∧ Aside0 (gradinelaw23_CellsSame.j2 kq za9 zci a0_0 l0_1 l0_2 = some true) ∧ Aside0 (kq ≤ zbd) ∧ Aside0 (Kd.R (Kd.int .i64) 3 wc w.heap.size (fun k_ => some k_ ≠ ((.slice zx zp.length zv) : Value).ownBlock ∧ some k_ ≠ ((.slice zq zm.length zr) : Value).ownBlock ∧ some k_ ≠ ((.slice zs zn.length zt) : Value).ownBlock) (.slice zw zo.length zu) zo) ∧ Aside0 (Kd.R (Kd.int .i64) 3 wc w.heap.size (fun k_ => some k_ ≠ ((.slice zw zo.length zu) : Value).ownBlock ∧ some k_ ≠ ((.slice zq zm.length zr) : Value).ownBlock ∧ some k_ ≠ ((.slice zs zn.length zt) : Value).ownBlock) (.slice zx zp.length zv) zp) ∧ Aside0 (Kd.R (Kd.int .i64) 3 wc w.heap.size (fun k_ => some k_ ≠ ((.slice zw zo.length zu) : Value).ownBlock ∧ some k_ ≠ ((.slice zx zp.length zv) : Value).ownBlock ∧ some k_ ≠ ((.slice zs zn.length zt) : Value).ownBlock) (.slice zq zm.length zr) zm) ∧ Aside0 (Kd.R (Kd.int .i64) 3 wc w.heap.size (fun k_ => some k_ ≠ ((.slice zw zo.length zu) : Value).ownBlock ∧ some k_ ≠ ((.slice zx zp.length zv) : Value).ownBlock ∧ some k_ ≠ ((.slice zq zm.length zr) : Value).ownBlock) (.slice zs zn.length zt) zn) ∧ Aside0 (wc.heap[zy]? = some (.cells #[.int .i64 a0_0, (.slice A0_1 l0_1.length c0_1), (.slice A0_2 l0_2.length c0_2)] 24 (0, 0))) ∧ Aside0 (wc.heap[zai]? = some (.cells #[.int .i64 zba, (.slice zw zo.length zu), (.slice zx zp.length zv)] 24 (0, 0))) ∧ Aside0 (wc.heap[zah]? = some (.cells #[.int .i64 za8, (.slice zq zm.length zr), (.slice zs zn.length zt)] 24 (0, 0))) ∧ Aside0 (Below w.heap.size w wc))
     case first =>
      have H := HC64.out
      clear HC64
      by_cases c69 : zbu = zdc
      rotate_left
      ·rw [if_neg c69] at H
       have zc0 : (zbu == zdc) = false := beq_eq_false_iff_ne.mpr c69
       have c69b1 : (zbu != zdc) = true := bne_iff_ne.mpr c69
       (first | rw [zc0] | (simp only [i64_w, i32_w]; rw [zc0]) | skip)
       have H' := aM H
       clear H
       try go_wp2
       replace zc := aM (Kd.R_drew zc.out)
       replace zd := aM (Kd.R_drew zd.out)
       replace za := aM (Kd.R_drew za.out)
       replace zb := aM (Kd.R_drew zb.out)
       replace ze := aM (blk_drew ze.out)
       replace zg := aM (blk_drew zg.out)
       replace zf := aM (blk_drew zf.out)
       replace HB := aM (below_drew1 HB.out)
       refine start_ (n := 29) (S := fun w' => True) (ds := []) (bm 29 0) (by kernel_rfl) rfl rfl trivial (fun hHeld => ?_); refine with_tabW gradinelaw23_CellsSame.tab12 gradinelaw23_CellsSame.bits12 (fun HT_ HW_ => ?_)
       generalize w68.drew = w87 at zc zd za zb ze zg zf HB hHeld ⊢
       refine pP (i := 0) (N := some 98) (bm 29 1) rfl rfl HT_.out ?_
       refine pP (i := 1) (N := some 99) (bm 29 3) rfl rfl HT_.out ?_
       refine pP (i := 2) (N := some 100) (bm 29 7) rfl rfl HT_.out ?_
       refine pP (i := 3) (N := some 101) (bm 29 15) rfl rfl HT_.out ?_
       refine pure_ (i := 4) (N := some 102) (v := undef) (a' := ?_) (bm 29 31) rfl rfl (any_of HT_.out (by kernel_rfl)) (fun _ _ _ h => h) (Or.inr ⟨by rfl, rfl⟩) ?_ ?_
       rotate_left
       ·simp only [Act.put, sP, i64_w, i32_w]
        rfl
       refine pure_ (i := 5) (N := some 103) (v := undef) (a' := ?_) (bm 29 63) rfl rfl (any_of HT_.out (by kernel_rfl)) (fun _ _ _ h => h) (Or.inr ⟨by rfl, rfl⟩) ?_ ?_
       rotate_left
       ·simp only [Act.put, sP, i64_w, i32_w]
        rfl
       refine pure_ (i := 6) (N := some 104) (v := undef) (a' := ?_) (bm 29 127) rfl rfl (any_of HT_.out (by kernel_rfl)) (fun _ _ _ h => h) (Or.inr ⟨by rfl, rfl⟩) ?_ ?_
       rotate_left
       ·simp only [Act.put, sP, i64_w, i32_w]
        rfl
       refine pP (i := 7) (N := some 105) (bm 29 255) rfl rfl HT_.out ?_
       refine pP (i := 8) (N := some 106) (bm 29 511) rfl rfl HT_.out ?_
       refine pure_ (i := 9) (N := some 107) (v := undef) (a' := ?_) (bm 29 1023) rfl rfl (any_of HT_.out (by kernel_rfl)) (fun _ _ _ h => h) (Or.inr ⟨by rfl, rfl⟩) ?_ ?_
       rotate_left
       ·simp only [Act.put, sP, i64_w, i32_w]
        rfl
       refine pure_ (i := 10) (N := some 108) (v := undef) (a' := ?_) (bm 29 2047) rfl rfl (any_of HT_.out (by kernel_rfl)) (fun _ _ _ h => h) (Or.inr ⟨by rfl, rfl⟩) ?_ ?_
       rotate_left
       ·simp only [Act.put, sP, i64_w, i32_w]
        rfl
       refine pure_ (i := 11) (N := some 109) (v := undef) (a' := ?_) (bm 29 4095) rfl rfl (any_of HT_.out (by kernel_rfl)) (fun _ _ _ h => h) (Or.inr ⟨by rfl, rfl⟩) ?_ ?_
       rotate_left
       ·simp only [Act.put, sP, i64_w, i32_w]
        rfl
       refine pP (i := 12) (N := some 110) (bm 29 8191) rfl rfl HT_.out ?_
       refine pP (i := 13) (N := some 111) (bm 29 16383) rfl rfl HT_.out ?_
       refine pure_ (i := 14) (N := some 112) (v := undef) (a' := ?_) (bm 29 32767) rfl rfl (any_of HT_.out (by kernel_rfl)) (fun _ _ _ h => h) (Or.inr ⟨by rfl, rfl⟩) ?_ ?_
       rotate_left
       ·simp only [Act.put, sP, i64_w, i32_w]
        rfl
       refine pure_ (i := 15) (N := some 113) (v := undef) (a' := ?_) (bm 29 65535) rfl rfl (any_of HT_.out (by kernel_rfl)) (fun _ _ _ h => h) (Or.inr ⟨by rfl, rfl⟩) ?_ ?_
       rotate_left
       ·simp only [Act.put, sP, i64_w, i32_w]
        rfl
       refine pure_ (i := 16) (N := some 114) (v := undef) (a' := ?_) (bm 29 131071) rfl rfl (any_of HT_.out (by kernel_rfl)) (fun _ _ _ h => h) (Or.inr ⟨by rfl, rfl⟩) ?_ ?_
       rotate_left
       ·simp only [Act.put, sP, i64_w, i32_w]
        rfl
       refine pure_ (i := 17) (N := some 115) (v := undef) (a' := ?_) (bm 29 262143) rfl rfl (any_of HT_.out (by kernel_rfl)) (fun _ _ _ h => h) (Or.inr ⟨by rfl, rfl⟩) ?_ ?_
       rotate_left
       ·simp only [Act.put, sP, i64_w, i32_w]
        rfl
       refine pure_ (i := 18) (N := some 116) (v := undef) (a' := ?_) (bm 29 524287) rfl rfl (any_of HT_.out (by kernel_rfl)) (fun _ _ _ h => h) (Or.inr ⟨by rfl, rfl⟩) ?_ ?_
       rotate_left
       ·simp only [Act.put, sP, i64_w, i32_w]
        rfl
       refine pP (i := 19) (N := some 117) (bm 29 1048575) rfl rfl HT_.out ?_
       refine pP (i := 20) (N := some 118) (bm 29 2097151) rfl rfl HT_.out ?_
       refine pure_ (i := 21) (N := some 119) (v := undef) (a' := ?_) (bm 29 4194303) rfl rfl (any_of HT_.out (by kernel_rfl)) (fun _ _ _ h => h) (Or.inr ⟨by rfl, rfl⟩) ?_ ?_
       rotate_left
       ·simp only [Act.put, sP, i64_w, i32_w]
        rfl
       refine pure_ (i := 22) (N := some 120) (v := undef) (a' := ?_) (bm 29 8388607) rfl rfl (any_of HT_.out (by kernel_rfl)) (fun _ _ _ h => h) (Or.inr ⟨by rfl, rfl⟩) ?_ ?_
       rotate_left
       ·simp only [Act.put, sP, i64_w, i32_w]
        rfl
       refine pure_ (i := 23) (N := some 121) (v := undef) (a' := ?_) (bm 29 16777215) rfl rfl (any_of HT_.out (by kernel_rfl)) (fun _ _ _ h => h) (Or.inr ⟨by rfl, rfl⟩) ?_ ?_
       rotate_left
       ·simp only [Act.put, sP, i64_w, i32_w]
        rfl
       refine pure_ (i := 24) (N := some 122) (v := undef) (a' := ?_) (bm 29 33554431) rfl rfl (any_of HT_.out (by kernel_rfl)) (fun _ _ _ h => h) (Or.inr ⟨by rfl, rfl⟩) ?_ ?_
       rotate_left
       ·simp only [Act.put, sP, i64_w, i32_w]
        rfl
       refine pure_ (i := 25) (N := some 123) (v := undef) (a' := ?_) (bm 29 67108863) rfl rfl (any_of HT_.out (by kernel_rfl)) (fun _ _ _ h => h) (Or.inr ⟨by rfl, rfl⟩) ?_ ?_
       rotate_left
       ·simp only [Act.put, sP, i64_w, i32_w]
        rfl
       refine pure_ (i := 26) (N := some 124) (v := undef) (a' := ?_) (bm 29 134217727) rfl rfl (any_of HT_.out (by kernel_rfl)) (fun _ _ _ h => h) (Or.inr ⟨by rfl, rfl⟩) ?_ ?_
       rotate_left
       ·simp only [Act.put, sP, i64_w, i32_w]
        rfl
       refine pure_ (i := 27) (N := some 125) (v := undef) (a' := ?_) (bm 29 268435455) rfl rfl (any_of HT_.out (by kernel_rfl)) (fun _ _ _ h => h) (Or.inr ⟨by rfl, rfl⟩) ?_ ?_
       rotate_left
       ·simp only [Act.put, sP, i64_w, i32_w]
        rfl
       refine pP (i := 28) (N := some 126) (bm 29 536870911) rfl rfl HT_.out ?_
       refine done_ (done_of HT_.out (by kernel_rfl)) ?_
       try go_wp2
       go_meet
       case rel => exact ⟨_, (true), (pF), H', ⟨by have := HJ3.out; have := zdf.out; first | omega | exact Nat.le_refl _⟩, ⟨pR zc.out⟩, ⟨pR zd.out⟩, ⟨pR za.out⟩, ⟨pR zb.out⟩, ⟨pK ze.out⟩, ⟨pK zg.out⟩, ⟨pK zf.out⟩, ⟨qB3 HB zh zi zj⟩⟩
      rw [if_pos c69] at H
      have zc0 : (zbu == zdc) = true := beq_iff_eq.mpr c69
      have c69b1 : (zbu != zdc) = false := bne_eq_false_iff_eq.mpr c69
      clear c69
      (first | rw [zc0] | (simp only [i64_w, i32_w]; rw [zc0]) | skip)
      by_cases c70 : zch = zdd
      rotate_left
      ·rw [if_neg c70] at H
       have c70b0 : (zch == zdd) = false := beq_eq_false_iff_ne.mpr c70
       have c70b1 : (zch != zdd) = true := bne_iff_ne.mpr c70
       have H' := aM H
       clear H
       try go_wp2
       replace zc := aM (Kd.R_drew zc.out)
       replace zd := aM (Kd.R_drew zd.out)
       replace za := aM (Kd.R_drew za.out)
       replace zb := aM (Kd.R_drew zb.out)
       replace ze := aM (blk_drew ze.out)
       replace zg := aM (blk_drew zg.out)
       replace zf := aM (blk_drew zf.out)
       replace HB := aM (below_drew1 HB.out)
       refine start_ (n := 29) (S := fun w' => True) (ds := []) (bm 29 0) (by kernel_rfl) rfl rfl trivial (fun hHeld => ?_); refine with_tabW gradinelaw23_CellsSame.tab12 gradinelaw23_CellsSame.bits12 (fun HT_ HW_ => ?_)
       generalize w68.drew = w86 at zc zd za zb ze zg zf HB hHeld ⊢
       refine pP (i := 0) (N := some 98) (bm 29 1) rfl rfl HT_.out ?_
       refine pP (i := 1) (N := some 99) (bm 29 3) rfl rfl HT_.out ?_
       refine pP (i := 2) (N := some 100) (bm 29 7) rfl rfl HT_.out ?_
       refine pP (i := 3) (N := some 101) (bm 29 15) rfl rfl HT_.out ?_
       refine pP (i := 4) (N := some 102) (bm 29 31) rfl rfl HT_.out ?_
       refine pP (i := 5) (N := some 103) (bm 29 63) rfl rfl HT_.out ?_
       refine pP (i := 6) (N := some 104) (bm 29 127) rfl rfl HT_.out ?_
       refine pP (i := 7) (N := some 105) (bm 29 255) rfl rfl HT_.out ?_
       refine pP (i := 8) (N := some 106) (bm 29 511) rfl rfl HT_.out ?_
       refine pure_ (i := 9) (N := some 107) (v := undef) (a' := ?_) (bm 29 1023) rfl rfl (any_of HT_.out (by kernel_rfl)) (fun _ _ _ h => h) (Or.inr ⟨by rfl, rfl⟩) ?_ ?_
       rotate_left
       ·simp only [Act.put, sP, i64_w, i32_w]
        rfl
       refine pure_ (i := 10) (N := some 108) (v := undef) (a' := ?_) (bm 29 2047) rfl rfl (any_of HT_.out (by kernel_rfl)) (fun _ _ _ h => h) (Or.inr ⟨by rfl, rfl⟩) ?_ ?_
       rotate_left
       ·simp only [Act.put, sP, i64_w, i32_w]
        rfl
       refine pure_ (i := 11) (N := some 109) (v := undef) (a' := ?_) (bm 29 4095) rfl rfl (any_of HT_.out (by kernel_rfl)) (fun _ _ _ h => h) (Or.inr ⟨by rfl, rfl⟩) ?_ ?_
       rotate_left
       ·simp only [Act.put, sP, i64_w, i32_w]
        rfl
       refine pP (i := 12) (N := some 110) (bm 29 8191) rfl rfl HT_.out ?_
       refine pP (i := 13) (N := some 111) (bm 29 16383) rfl rfl HT_.out ?_
       refine pure_ (i := 14) (N := some 112) (v := undef) (a' := ?_) (bm 29 32767) rfl rfl (any_of HT_.out (by kernel_rfl)) (fun _ _ _ h => h) (Or.inr ⟨by rfl, rfl⟩) ?_ ?_
       rotate_left
       ·simp only [Act.put, sP, i64_w, i32_w]
        rfl
       refine pure_ (i := 15) (N := some 113) (v := undef) (a' := ?_) (bm 29 65535) rfl rfl (any_of HT_.out (by kernel_rfl)) (fun _ _ _ h => h) (Or.inr ⟨by rfl, rfl⟩) ?_ ?_
       rotate_left
       ·simp only [Act.put, sP, i64_w, i32_w]
        rfl
       refine pure_ (i := 16) (N := some 114) (v := undef) (a' := ?_) (bm 29 131071) rfl rfl (any_of HT_.out (by kernel_rfl)) (fun _ _ _ h => h) (Or.inr ⟨by rfl, rfl⟩) ?_ ?_
       rotate_left
       ·simp only [Act.put, sP, i64_w, i32_w]
        rfl
       refine pure_ (i := 17) (N := some 115) (v := undef) (a' := ?_) (bm 29 262143) rfl rfl (any_of HT_.out (by kernel_rfl)) (fun _ _ _ h => h) (Or.inr ⟨by rfl, rfl⟩) ?_ ?_
       rotate_left
       ·simp only [Act.put, sP, i64_w, i32_w]
        rfl
       refine pure_ (i := 18) (N := some 116) (v := undef) (a' := ?_) (bm 29 524287) rfl rfl (any_of HT_.out (by kernel_rfl)) (fun _ _ _ h => h) (Or.inr ⟨by rfl, rfl⟩) ?_ ?_
       rotate_left
       ·simp only [Act.put, sP, i64_w, i32_w]
        rfl
       refine pP (i := 19) (N := some 117) (bm 29 1048575) rfl rfl HT_.out ?_
       refine pP (i := 20) (N := some 118) (bm 29 2097151) rfl rfl HT_.out ?_
       refine pure_ (i := 21) (N := some 119) (v := undef) (a' := ?_) (bm 29 4194303) rfl rfl (any_of HT_.out (by kernel_rfl)) (fun _ _ _ h => h) (Or.inr ⟨by rfl, rfl⟩) ?_ ?_
       rotate_left
       ·simp only [Act.put, sP, i64_w, i32_w]
        rfl
       refine pure_ (i := 22) (N := some 120) (v := undef) (a' := ?_) (bm 29 8388607) rfl rfl (any_of HT_.out (by kernel_rfl)) (fun _ _ _ h => h) (Or.inr ⟨by rfl, rfl⟩) ?_ ?_
       rotate_left
       ·simp only [Act.put, sP, i64_w, i32_w]
        rfl
       refine pure_ (i := 23) (N := some 121) (v := undef) (a' := ?_) (bm 29 16777215) rfl rfl (any_of HT_.out (by kernel_rfl)) (fun _ _ _ h => h) (Or.inr ⟨by rfl, rfl⟩) ?_ ?_
       rotate_left
       ·simp only [Act.put, sP, i64_w, i32_w]
        rfl
       refine pure_ (i := 24) (N := some 122) (v := undef) (a' := ?_) (bm 29 33554431) rfl rfl (any_of HT_.out (by kernel_rfl)) (fun _ _ _ h => h) (Or.inr ⟨by rfl, rfl⟩) ?_ ?_
       rotate_left
       ·simp only [Act.put, sP, i64_w, i32_w]
        rfl
       refine pure_ (i := 25) (N := some 123) (v := undef) (a' := ?_) (bm 29 67108863) rfl rfl (any_of HT_.out (by kernel_rfl)) (fun _ _ _ h => h) (Or.inr ⟨by rfl, rfl⟩) ?_ ?_
       rotate_left
       ·simp only [Act.put, sP, i64_w, i32_w]
        rfl
       refine pure_ (i := 26) (N := some 124) (v := undef) (a' := ?_) (bm 29 134217727) rfl rfl (any_of HT_.out (by kernel_rfl)) (fun _ _ _ h => h) (Or.inr ⟨by rfl, rfl⟩) ?_ ?_
       rotate_left
       ·simp only [Act.put, sP, i64_w, i32_w]
        rfl
       refine pure_ (i := 27) (N := some 125) (v := undef) (a' := ?_) (bm 29 268435455) rfl rfl (any_of HT_.out (by kernel_rfl)) (fun _ _ _ h => h) (Or.inr ⟨by rfl, rfl⟩) ?_ ?_
       rotate_left
       ·simp only [Act.put, sP, i64_w, i32_w]
        rfl
       refine pP (i := 28) (N := some 126) (bm 29 536870911) rfl rfl HT_.out ?_
       refine done_ (done_of HT_.out (by kernel_rfl)) ?_
       try go_wp2
       go_meet
       case rel => exact ⟨_, (true), (pF), H', ⟨by have := HJ3.out; have := zdf.out; first | omega | exact Nat.le_refl _⟩, ⟨pR zc.out⟩, ⟨pR zd.out⟩, ⟨pR za.out⟩, ⟨pR zb.out⟩, ⟨pK ze.out⟩, ⟨pK zg.out⟩, ⟨pK zf.out⟩, ⟨qB3 HB zh zi zj⟩⟩
      rw [if_pos c70] at H
      have c70b0 : (zch == zdd) = true := beq_iff_eq.mpr c70
      have c70b1 : (zch != zdd) = false := bne_eq_false_iff_eq.mpr c70
      clear c70
      by_cases c71 : (za9 != zcu) = true
      ·rw [if_pos c71] at H
       have c71b0 : (za9 != zcu) = true := c71
       (try (have c71b1 : decide (za9 = zcu) = false := by simpa using c71))
       (try (have c71b2 : (za9 == zcu) = false := by simpa using c71))
       (try (have c71b3 : ¬ (za9 = zcu) := by simpa using c71))
       clear c71
       have H' := aM H
       clear H
       try go_wp2
       replace zc := aM (Kd.R_drew zc.out)
       replace zd := aM (Kd.R_drew zd.out)
       replace za := aM (Kd.R_drew za.out)
       replace zb := aM (Kd.R_drew zb.out)
       replace ze := aM (blk_drew ze.out)
       replace zg := aM (blk_drew zg.out)
       replace zf := aM (blk_drew zf.out)
       replace HB := aM (below_drew1 HB.out)
       refine start_ (n := 29) (S := fun w' => True) (ds := []) (bm 29 0) (by kernel_rfl) rfl rfl trivial (fun hHeld => ?_); refine with_tabW gradinelaw23_CellsSame.tab12 gradinelaw23_CellsSame.bits12 (fun HT_ HW_ => ?_)
       generalize w68.drew = w72 at zc zd za zb ze zg zf HB hHeld ⊢
       refine pP (i := 0) (N := some 98) (bm 29 1) rfl rfl HT_.out ?_
       refine pP (i := 1) (N := some 99) (bm 29 3) rfl rfl HT_.out ?_
       refine pP (i := 2) (N := some 100) (bm 29 7) rfl rfl HT_.out ?_
       refine pP (i := 3) (N := some 101) (bm 29 15) rfl rfl HT_.out ?_
       refine pP (i := 4) (N := some 102) (bm 29 31) rfl rfl HT_.out ?_
       refine pP (i := 5) (N := some 103) (bm 29 63) rfl rfl HT_.out ?_
       refine pP (i := 6) (N := some 104) (bm 29 127) rfl rfl HT_.out ?_
       refine pP (i := 7) (N := some 105) (bm 29 255) rfl rfl HT_.out ?_
       refine pP (i := 8) (N := some 106) (bm 29 511) rfl rfl HT_.out ?_
       refine pP (i := 9) (N := some 107) (bm 29 1023) rfl rfl HT_.out ?_
       refine pP (i := 10) (N := some 108) (bm 29 2047) rfl rfl HT_.out ?_
       refine pP (i := 11) (N := some 109) (bm 29 4095) rfl rfl HT_.out ?_
       refine pP (i := 12) (N := some 110) (bm 29 8191) rfl rfl HT_.out ?_
       refine pP (i := 13) (N := some 111) (bm 29 16383) rfl rfl HT_.out ?_
       refine pure_ (i := 14) (N := some 112) (v := undef) (a' := ?_) (bm 29 32767) rfl rfl (any_of HT_.out (by kernel_rfl)) (fun _ _ _ h => h) (Or.inr ⟨by rfl, rfl⟩) ?_ ?_
       rotate_left
       ·simp only [Act.put, sP, i64_w, i32_w]
        rfl
       refine pure_ (i := 15) (N := some 113) (v := undef) (a' := ?_) (bm 29 65535) rfl rfl (any_of HT_.out (by kernel_rfl)) (fun _ _ _ h => h) (Or.inr ⟨by rfl, rfl⟩) ?_ ?_
       rotate_left
       ·simp only [Act.put, sP, i64_w, i32_w]
        rfl
       refine pure_ (i := 16) (N := some 114) (v := undef) (a' := ?_) (bm 29 131071) rfl rfl (any_of HT_.out (by kernel_rfl)) (fun _ _ _ h => h) (Or.inr ⟨by rfl, rfl⟩) ?_ ?_
       rotate_left
       ·simp only [Act.put, sP, i64_w, i32_w]
        rfl
       refine pure_ (i := 17) (N := some 115) (v := undef) (a' := ?_) (bm 29 262143) rfl rfl (any_of HT_.out (by kernel_rfl)) (fun _ _ _ h => h) (Or.inr ⟨by rfl, rfl⟩) ?_ ?_
       rotate_left
       ·simp only [Act.put, sP, i64_w, i32_w]
        rfl
       refine pure_ (i := 18) (N := some 116) (v := undef) (a' := ?_) (bm 29 524287) rfl rfl (any_of HT_.out (by kernel_rfl)) (fun _ _ _ h => h) (Or.inr ⟨by rfl, rfl⟩) ?_ ?_
       rotate_left
       ·simp only [Act.put, sP, i64_w, i32_w]
        rfl
       refine pP (i := 19) (N := some 117) (bm 29 1048575) rfl rfl HT_.out ?_
       refine pP (i := 20) (N := some 118) (bm 29 2097151) rfl rfl HT_.out ?_
       refine pure_ (i := 21) (N := some 119) (v := undef) (a' := ?_) (bm 29 4194303) rfl rfl (any_of HT_.out (by kernel_rfl)) (fun _ _ _ h => h) (Or.inr ⟨by rfl, rfl⟩) ?_ ?_
       rotate_left
       ·simp only [Act.put, sP, i64_w, i32_w]
        rfl
       refine pure_ (i := 22) (N := some 120) (v := undef) (a' := ?_) (bm 29 8388607) rfl rfl (any_of HT_.out (by kernel_rfl)) (fun _ _ _ h => h) (Or.inr ⟨by rfl, rfl⟩) ?_ ?_
       rotate_left
       ·simp only [Act.put, sP, i64_w, i32_w]
        rfl
       refine pure_ (i := 23) (N := some 121) (v := undef) (a' := ?_) (bm 29 16777215) rfl rfl (any_of HT_.out (by kernel_rfl)) (fun _ _ _ h => h) (Or.inr ⟨by rfl, rfl⟩) ?_ ?_
       rotate_left
       ·simp only [Act.put, sP, i64_w, i32_w]
        rfl
       refine pure_ (i := 24) (N := some 122) (v := undef) (a' := ?_) (bm 29 33554431) rfl rfl (any_of HT_.out (by kernel_rfl)) (fun _ _ _ h => h) (Or.inr ⟨by rfl, rfl⟩) ?_ ?_
       rotate_left
       ·simp only [Act.put, sP, i64_w, i32_w]
        rfl
       refine pure_ (i := 25) (N := some 123) (v := undef) (a' := ?_) (bm 29 67108863) rfl rfl (any_of HT_.out (by kernel_rfl)) (fun _ _ _ h => h) (Or.inr ⟨by rfl, rfl⟩) ?_ ?_
       rotate_left
       ·simp only [Act.put, sP, i64_w, i32_w]
        rfl
       refine pure_ (i := 26) (N := some 124) (v := undef) (a' := ?_) (bm 29 134217727) rfl rfl (any_of HT_.out (by kernel_rfl)) (fun _ _ _ h => h) (Or.inr ⟨by rfl, rfl⟩) ?_ ?_
       rotate_left
       ·simp only [Act.put, sP, i64_w, i32_w]
        rfl
       refine pure_ (i := 27) (N := some 125) (v := undef) (a' := ?_) (bm 29 268435455) rfl rfl (any_of HT_.out (by kernel_rfl)) (fun _ _ _ h => h) (Or.inr ⟨by rfl, rfl⟩) ?_ ?_
       rotate_left
       ·simp only [Act.put, sP, i64_w, i32_w]
        rfl
       refine pP (i := 28) (N := some 126) (bm 29 536870911) rfl rfl HT_.out ?_
       refine done_ (done_of HT_.out (by kernel_rfl)) ?_
       try go_wp2
       go_meet
       case rel => exact ⟨_, (true), (pF), H', ⟨by have := HJ3.out; have := zdf.out; first | omega | exact Nat.le_refl _⟩, ⟨pR zc.out⟩, ⟨pR zd.out⟩, ⟨pR za.out⟩, ⟨pR zb.out⟩, ⟨pK ze.out⟩, ⟨pK zg.out⟩, ⟨pK zf.out⟩, ⟨qB3 HB zh zi zj⟩⟩
      rw [if_neg c71] at H
      have c71b0 : (za9 != zcu) = false := by simpa using c71
      (try (have c71b1 : decide (za9 = zcu) = true := by simpa using c71))
      (try (have c71b2 : (za9 == zcu) = true := by simpa using c71))
      clear c71
      replace H := Option.bind_eq_some_iff.mp H
      obtain ⟨zcf, ze1, H⟩ := H
      try dsimp only at H
      have A73 := aM ze1
      clear ze1
      replace H := Option.bind_eq_some_iff.mp H
      obtain ⟨zcg, ze2, H⟩ := H
      try dsimp only at H
      have A74 := aM ze2
      clear ze2
      by_cases c75 : (zcf != zcg) = true
      ·rw [if_pos c75] at H
       have c75b0 : (zcf != zcg) = true := c75
       (try (have c75b1 : decide (zcf = zcg) = false := by simpa using c75))
       (try (have c75b2 : (zcf == zcg) = false := by simpa using c75))
       (try (have c75b3 : ¬ (zcf = zcg) := by simpa using c75))
       clear c75
       have H' := aM H
       clear H
       try go_wp2
       replace zc := aM (Kd.R_drew zc.out)
       replace zd := aM (Kd.R_drew zd.out)
       replace za := aM (Kd.R_drew za.out)
       replace zb := aM (Kd.R_drew zb.out)
       replace ze := aM (blk_drew ze.out)
       replace zg := aM (blk_drew zg.out)
       replace zf := aM (blk_drew zf.out)
       replace HB := aM (below_drew1 HB.out)
       refine start_ (n := 29) (S := fun w' => w'.cell? ⟨zah, 0, none⟩ = some (.int .i64 za8) ∧ w'.cell? ⟨zah, 1, none⟩ = some (.slice zq zm.length zr) ∧ w'.cell? ⟨zah, 2, none⟩ = some (.slice zs zn.length zt) ∧ w'.cell? ⟨zy, 0, none⟩ = some (.int .i64 a0_0) ∧ w'.cell? ⟨zy, 1, none⟩ = some (.slice A0_1 l0_1.length c0_1) ∧ w'.cell? ⟨zy, 2, none⟩ = some (.slice A0_2 l0_2.length c0_2)) (ds := []) (bm 29 0) (by kernel_rfl) rfl rfl ⟨(blk_cell zf.out 0).trans rfl, (blk_cell zf.out 1).trans rfl, (blk_cell zf.out 2).trans rfl, (blk_cell ze.out 0).trans rfl, (blk_cell ze.out 1).trans rfl, (blk_cell ze.out 2).trans rfl⟩ (fun hHeld => ?_); refine with_tabW gradinelaw23_CellsSame.tab12 gradinelaw23_CellsSame.bits12 (fun HT_ HW_ => ?_)
       generalize w68.drew = w76 at zc zd za zb ze zg zf HB hHeld ⊢
       refine pP (i := 0) (N := some 98) (bm 29 1) rfl rfl HT_.out ?_
       refine pP (i := 1) (N := some 99) (bm 29 3) rfl rfl HT_.out ?_
       refine pP (i := 2) (N := some 100) (bm 29 7) rfl rfl HT_.out ?_
       refine pP (i := 3) (N := some 101) (bm 29 15) rfl rfl HT_.out ?_
       refine pP (i := 4) (N := some 102) (bm 29 31) rfl rfl HT_.out ?_
       refine pP (i := 5) (N := some 103) (bm 29 63) rfl rfl HT_.out ?_
       refine pP (i := 6) (N := some 104) (bm 29 127) rfl rfl HT_.out ?_
       refine pP (i := 7) (N := some 105) (bm 29 255) rfl rfl HT_.out ?_
       refine pP (i := 8) (N := some 106) (bm 29 511) rfl rfl HT_.out ?_
       refine pP (i := 9) (N := some 107) (bm 29 1023) rfl rfl HT_.out ?_
       refine pP (i := 10) (N := some 108) (bm 29 2047) rfl rfl HT_.out ?_
       refine pP (i := 11) (N := some 109) (bm 29 4095) rfl rfl HT_.out ?_
       refine pP (i := 12) (N := some 110) (bm 29 8191) rfl rfl HT_.out ?_
       refine pP (i := 13) (N := some 111) (bm 29 16383) rfl rfl HT_.out ?_
       refine pT (i := 14) (N := some 112) (bm 29 32767) rfl rfl HT_.out HW_.out hHeld (by rintro w' ⟨s0, s1, s2, s3, s4, s5⟩; go_simp; with_reducible rfl) ?_
       refine pT (i := 16) (N := some 114) (bm 29 98303) rfl rfl HT_.out HW_.out hHeld (by rintro w' ⟨s0, s1, s2, s3, s4, s5⟩; go_simp; with_reducible rfl) ?_
       refine one_ (i := 15) (N := some 113) (bm 29 131071) rfl rfl (one_of HT_.out (by kernel_rfl)) (by decide) (fun K hK => ?_)
       refine goes_ Try.func30 (by kernel_rfl) rfl #[.agg #[.int .i64 za8, .slice zq zm.length zr, .slice zs zn.length zt]] (by rfl) rfl rfl pA ?_
       with_reducible refine (cells_Once.calls zbd za8 _ _ zm _ _ zn zcf _ ?s1 ?s2 ?s3 ?s4 A73.out).mono ?_
       (case s1 => exact sR za)
       (case s2 => exact sL za)
       (case s3 => exact sR zb)
       (case s4 => exact sL zb)
       rintro e w77 ⟨rfl, hb⟩
       refine ⟨_, rfl, ?_⟩
       replace zc := bR zc hb
       replace zd := bR zd hb
       replace za := bR za hb
       replace zb := bR zb hb
       replace ze := bK ze hb
       replace zg := bK zg hb
       replace zf := bK zf hb
       replace HB := bS (qB3 HB zh zi zj) hb
       (try clear hb)
       (try clear hk)
       (try clear hi)
       refine hK.out _ _ ⟨(blk_cell zf.out 0).trans rfl, (blk_cell zf.out 1).trans rfl, (blk_cell zf.out 2).trans rfl, (blk_cell ze.out 0).trans rfl, (blk_cell ze.out 1).trans rfl, (blk_cell ze.out 2).trans rfl⟩ (fun hHeld => ?_)
       clear hK K
       refine norm_ (a' := ?_) ?_ ?_
       rotate_left
       ·show Act.put _ (some 113) _ = _
        simp only [Act.put, sP, i64_w, i32_w]
        rfl
       refine one_ (i := 17) (N := some 115) (bm 29 262143) rfl rfl (one_of HT_.out (by kernel_rfl)) (by decide) (fun K hK => ?_)
       refine goes_ Try.func30 (by kernel_rfl) rfl #[.agg #[.int .i64 a0_0, .slice A0_1 l0_1.length c0_1, .slice A0_2 l0_2.length c0_2]] (by rfl) rfl rfl pA ?_
       with_reducible refine (cells_Once.calls zbd a0_0 _ _ l0_1 _ _ l0_2 zcg _ ?s1 ?s2 ?s3 ?s4 A74.out).mono ?_
       (case s1 => exact sC zal HB)
       (case s2 => exact zav.out)
       (case s3 => exact sC zaw HB)
       (case s4 => exact zax.out)
       rintro e w78 ⟨rfl, hb⟩
       refine ⟨_, rfl, ?_⟩
       replace zc := bR zc hb
       replace zd := bR zd hb
       replace za := bR za hb
       replace zb := bR zb hb
       replace ze := bK ze hb
       replace zg := bK zg hb
       replace zf := bK zf hb
       replace HB := bS (qB3 HB zh zi zj) hb
       (try clear hb)
       refine hK.out _ _ ⟨(blk_cell zf.out 0).trans rfl, (blk_cell zf.out 1).trans rfl, (blk_cell zf.out 2).trans rfl, (blk_cell ze.out 0).trans rfl, (blk_cell ze.out 1).trans rfl, (blk_cell ze.out 2).trans rfl⟩ (fun hHeld => ?_)
       clear hK K
       refine norm_ (a' := ?_) ?_ ?_
       rotate_left
       ·show Act.put _ (some 115) _ = _
        simp only [Act.put, sP, i64_w, i32_w]
        rfl
       refine pP (i := 18) (N := some 116) (bm 29 524287) rfl rfl HT_.out ?_
       refine pP (i := 19) (N := some 117) (bm 29 1048575) rfl rfl HT_.out ?_
       refine pP (i := 20) (N := some 118) (bm 29 2097151) rfl rfl HT_.out ?_
       refine pure_ (i := 21) (N := some 119) (v := undef) (a' := ?_) (bm 29 4194303) rfl rfl (any_of HT_.out (by kernel_rfl)) (fun _ _ _ h => h) (Or.inr ⟨by rfl, rfl⟩) ?_ ?_
       rotate_left
       ·simp only [Act.put, sP, i64_w, i32_w]
        rfl
       refine pure_ (i := 22) (N := some 120) (v := undef) (a' := ?_) (bm 29 8388607) rfl rfl (any_of HT_.out (by kernel_rfl)) (fun _ _ _ h => h) (Or.inr ⟨by rfl, rfl⟩) ?_ ?_
       rotate_left
       ·simp only [Act.put, sP, i64_w, i32_w]
        rfl
       refine pure_ (i := 23) (N := some 121) (v := undef) (a' := ?_) (bm 29 16777215) rfl rfl (any_of HT_.out (by kernel_rfl)) (fun _ _ _ h => h) (Or.inr ⟨by rfl, rfl⟩) ?_ ?_
       rotate_left
       ·simp only [Act.put, sP, i64_w, i32_w]
        rfl
       refine pure_ (i := 24) (N := some 122) (v := undef) (a' := ?_) (bm 29 33554431) rfl rfl (any_of HT_.out (by kernel_rfl)) (fun _ _ _ h => h) (Or.inr ⟨by rfl, rfl⟩) ?_ ?_
       rotate_left
       ·simp only [Act.put, sP, i64_w, i32_w]
        rfl
       refine pure_ (i := 25) (N := some 123) (v := undef) (a' := ?_) (bm 29 67108863) rfl rfl (any_of HT_.out (by kernel_rfl)) (fun _ _ _ h => h) (Or.inr ⟨by rfl, rfl⟩) ?_ ?_
       rotate_left
       ·simp only [Act.put, sP, i64_w, i32_w]
        rfl
       refine pure_ (i := 26) (N := some 124) (v := undef) (a' := ?_) (bm 29 134217727) rfl rfl (any_of HT_.out (by kernel_rfl)) (fun _ _ _ h => h) (Or.inr ⟨by rfl, rfl⟩) ?_ ?_
       rotate_left
       ·simp only [Act.put, sP, i64_w, i32_w]
        rfl
       refine pure_ (i := 27) (N := some 125) (v := undef) (a' := ?_) (bm 29 268435455) rfl rfl (any_of HT_.out (by kernel_rfl)) (fun _ _ _ h => h) (Or.inr ⟨by rfl, rfl⟩) ?_ ?_
       rotate_left
       ·simp only [Act.put, sP, i64_w, i32_w]
        rfl
       refine pP (i := 28) (N := some 126) (bm 29 536870911) rfl rfl HT_.out ?_
       refine done_ (done_of HT_.out (by kernel_rfl)) ?_
       try go_wp2
       go_meet
       case rel => exact ⟨_, (true), (pF), H', ⟨by have := HJ3.out; have := zdf.out; first | omega | exact Nat.le_refl _⟩, ⟨pR zc.out⟩, ⟨pR zd.out⟩, ⟨pR za.out⟩, ⟨pR zb.out⟩, ⟨pK ze.out⟩, ⟨pK zg.out⟩, ⟨pK zf.out⟩, ⟨qB3 HB zh zi zj⟩⟩
      rw [if_neg c75] at H
      have c75b0 : (zcf != zcg) = false := by simpa using c75
      (try (have c75b1 : decide (zcf = zcg) = true := by simpa using c75))
      (try (have c75b2 : (zcf == zcg) = true := by simpa using c75))
      clear c75
      replace H := Option.bind_eq_some_iff.mp H
      obtain ⟨zdo, ze3, H⟩ := H
      try dsimp only at H
      have A79 := aM ze3
      clear ze3
      replace H := Option.bind_eq_some_iff.mp H
      obtain ⟨zdp, ze4, H⟩ := H
      try dsimp only at H
      have A80 := aM ze4
      clear ze4
      have H' := aM H
      clear H
      try go_wp2
      replace zc := aM (Kd.R_drew zc.out)
      replace zd := aM (Kd.R_drew zd.out)
      replace za := aM (Kd.R_drew za.out)
      replace zb := aM (Kd.R_drew zb.out)
      replace ze := aM (blk_drew ze.out)
      replace zg := aM (blk_drew zg.out)
      replace zf := aM (blk_drew zf.out)
      replace HB := aM (below_drew1 HB.out)
      refine start_ (n := 29) (S := fun w' => w'.cell? ⟨zah, 0, none⟩ = some (.int .i64 za8) ∧ w'.cell? ⟨zah, 1, none⟩ = some (.slice zq zm.length zr) ∧ w'.cell? ⟨zah, 2, none⟩ = some (.slice zs zn.length zt) ∧ w'.cell? ⟨zy, 0, none⟩ = some (.int .i64 a0_0) ∧ w'.cell? ⟨zy, 1, none⟩ = some (.slice A0_1 l0_1.length c0_1) ∧ w'.cell? ⟨zy, 2, none⟩ = some (.slice A0_2 l0_2.length c0_2)) (ds := []) (bm 29 0) (by kernel_rfl) rfl rfl ⟨(blk_cell zf.out 0).trans rfl, (blk_cell zf.out 1).trans rfl, (blk_cell zf.out 2).trans rfl, (blk_cell ze.out 0).trans rfl, (blk_cell ze.out 1).trans rfl, (blk_cell ze.out 2).trans rfl⟩ (fun hHeld => ?_); refine with_tabW gradinelaw23_CellsSame.tab12 gradinelaw23_CellsSame.bits12 (fun HT_ HW_ => ?_)
      generalize w68.drew = w81 at zc zd za zb ze zg zf HB hHeld ⊢
      refine pP (i := 0) (N := some 98) (bm 29 1) rfl rfl HT_.out ?_
      refine pP (i := 1) (N := some 99) (bm 29 3) rfl rfl HT_.out ?_
      refine pP (i := 2) (N := some 100) (bm 29 7) rfl rfl HT_.out ?_
      refine pP (i := 3) (N := some 101) (bm 29 15) rfl rfl HT_.out ?_
      refine pP (i := 4) (N := some 102) (bm 29 31) rfl rfl HT_.out ?_
      refine pP (i := 5) (N := some 103) (bm 29 63) rfl rfl HT_.out ?_
      refine pP (i := 6) (N := some 104) (bm 29 127) rfl rfl HT_.out ?_
      refine pP (i := 7) (N := some 105) (bm 29 255) rfl rfl HT_.out ?_
      refine pP (i := 8) (N := some 106) (bm 29 511) rfl rfl HT_.out ?_
      refine pP (i := 9) (N := some 107) (bm 29 1023) rfl rfl HT_.out ?_
      refine pP (i := 10) (N := some 108) (bm 29 2047) rfl rfl HT_.out ?_
      refine pP (i := 11) (N := some 109) (bm 29 4095) rfl rfl HT_.out ?_
      refine pP (i := 12) (N := some 110) (bm 29 8191) rfl rfl HT_.out ?_
      refine pP (i := 13) (N := some 111) (bm 29 16383) rfl rfl HT_.out ?_
      refine pT (i := 14) (N := some 112) (bm 29 32767) rfl rfl HT_.out HW_.out hHeld (by rintro w' ⟨s0, s1, s2, s3, s4, s5⟩; go_simp; with_reducible rfl) ?_
      refine pT (i := 16) (N := some 114) (bm 29 98303) rfl rfl HT_.out HW_.out hHeld (by rintro w' ⟨s0, s1, s2, s3, s4, s5⟩; go_simp; with_reducible rfl) ?_
      refine one_ (i := 15) (N := some 113) (bm 29 131071) rfl rfl (one_of HT_.out (by kernel_rfl)) (by decide) (fun K hK => ?_)
      refine goes_ Try.func30 (by kernel_rfl) rfl #[.agg #[.int .i64 za8, .slice zq zm.length zr, .slice zs zn.length zt]] (by rfl) rfl rfl pA ?_
      with_reducible refine (cells_Once.calls zbd za8 _ _ zm _ _ zn zcf _ ?s1 ?s2 ?s3 ?s4 A73.out).mono ?_
      (case s1 => exact sR za)
      (case s2 => exact sL za)
      (case s3 => exact sR zb)
      (case s4 => exact sL zb)
      rintro e w82 ⟨rfl, hb⟩
      refine ⟨_, rfl, ?_⟩
      replace zc := bR zc hb
      replace zd := bR zd hb
      replace za := bR za hb
      replace zb := bR zb hb
      replace ze := bK ze hb
      replace zg := bK zg hb
      replace zf := bK zf hb
      replace HB := bS (qB3 HB zh zi zj) hb
      (try clear hb)
      refine hK.out _ _ ⟨(blk_cell zf.out 0).trans rfl, (blk_cell zf.out 1).trans rfl, (blk_cell zf.out 2).trans rfl, (blk_cell ze.out 0).trans rfl, (blk_cell ze.out 1).trans rfl, (blk_cell ze.out 2).trans rfl⟩ (fun hHeld => ?_)
      clear hK K
      refine norm_ (a' := ?_) ?_ ?_
      rotate_left
      ·show Act.put _ (some 113) _ = _
       simp only [Act.put, sP, i64_w, i32_w]
       rfl
      refine one_ (i := 17) (N := some 115) (bm 29 262143) rfl rfl (one_of HT_.out (by kernel_rfl)) (by decide) (fun K hK => ?_)
      refine goes_ Try.func30 (by kernel_rfl) rfl #[.agg #[.int .i64 a0_0, .slice A0_1 l0_1.length c0_1, .slice A0_2 l0_2.length c0_2]] (by rfl) rfl rfl pA ?_
      with_reducible refine (cells_Once.calls zbd a0_0 _ _ l0_1 _ _ l0_2 zcg _ ?s1 ?s2 ?s3 ?s4 A74.out).mono ?_
      (case s1 => exact sC zal HB)
      (case s2 => exact zav.out)
      (case s3 => exact sC zaw HB)
      (case s4 => exact zax.out)
      rintro e w83 ⟨rfl, hb⟩
      refine ⟨_, rfl, ?_⟩
      replace zc := bR zc hb
      replace zd := bR zd hb
      replace za := bR za hb
      replace zb := bR zb hb
      replace ze := bK ze hb
      replace zg := bK zg hb
      replace zf := bK zf hb
      replace HB := bS (qB3 HB zh zi zj) hb
      (try clear hb)
      refine hK.out _ _ ⟨(blk_cell zf.out 0).trans rfl, (blk_cell zf.out 1).trans rfl, (blk_cell zf.out 2).trans rfl, (blk_cell ze.out 0).trans rfl, (blk_cell ze.out 1).trans rfl, (blk_cell ze.out 2).trans rfl⟩ (fun hHeld => ?_)
      clear hK K
      refine norm_ (a' := ?_) ?_ ?_
      rotate_left
      ·show Act.put _ (some 115) _ = _
       simp only [Act.put, sP, i64_w, i32_w]
       rfl
      refine pP (i := 18) (N := some 116) (bm 29 524287) rfl rfl HT_.out ?_
      refine pP (i := 19) (N := some 117) (bm 29 1048575) rfl rfl HT_.out ?_
      refine pP (i := 20) (N := some 118) (bm 29 2097151) rfl rfl HT_.out ?_
      refine pP (i := 22) (N := some 120) (bm 29 6291455) rfl rfl HT_.out ?_
      refine pP (i := 25) (N := some 123) (bm 29 39845887) rfl rfl HT_.out ?_
      refine pT (i := 21) (N := some 119) (bm 29 41943039) rfl rfl HT_.out HW_.out hHeld (by rintro w' ⟨s0, s1, s2, s3, s4, s5⟩; go_simp; with_reducible rfl) ?_
      refine pT (i := 24) (N := some 122) (bm 29 58720255) rfl rfl HT_.out HW_.out hHeld (by rintro w' ⟨s0, s1, s2, s3, s4, s5⟩; go_simp; with_reducible rfl) ?_
      refine one_ (i := 23) (N := some 121) (bm 29 67108863) rfl rfl (one_of HT_.out (by kernel_rfl)) (by decide) (fun K hK => ?_)
      refine goes_ Try.func34 (by kernel_rfl) rfl #[.agg #[.int .i64 za8, .slice zq zm.length zr, .slice zs zn.length zt], .int .i64 zbu] (by rfl) rfl rfl pA ?_
      with_reducible refine (cells_Times.calls zbd za8 _ _ zm _ _ zn zbu zdo _ ?s1 ?s2 ?s3 ?s4 A79.out).mono ?_
      (case s1 => exact sR za)
      (case s2 => exact sL za)
      (case s3 => exact sR zb)
      (case s4 => exact sL zb)
      rintro e w84 ⟨rfl, hb⟩
      refine ⟨_, rfl, ?_⟩
      replace zc := bR zc hb
      replace zd := bR zd hb
      replace za := bR za hb
      replace zb := bR zb hb
      replace ze := bK ze hb
      replace zg := bK zg hb
      replace zf := bK zf hb
      replace HB := bS (qB3 HB zh zi zj) hb
      (try clear hb)
      refine hK.out _ _ ⟨(blk_cell zf.out 0).trans rfl, (blk_cell zf.out 1).trans rfl, (blk_cell zf.out 2).trans rfl, (blk_cell ze.out 0).trans rfl, (blk_cell ze.out 1).trans rfl, (blk_cell ze.out 2).trans rfl⟩ (fun hHeld => ?_)
      clear hK K
      refine norm_ (a' := ?_) ?_ ?_
      rotate_left
      ·show Act.put _ (some 121) _ = _
       simp only [Act.put, sP, i64_w, i32_w]
       rfl
      refine one_ (i := 26) (N := some 124) (bm 29 134217727) rfl rfl (one_of HT_.out (by kernel_rfl)) (by decide) (fun K hK => ?_)
      refine goes_ Try.func34 (by kernel_rfl) rfl #[.agg #[.int .i64 a0_0, .slice A0_1 l0_1.length c0_1, .slice A0_2 l0_2.length c0_2], .int .i64 zbu] (by rfl) rfl rfl pA ?_
      with_reducible refine (cells_Times.calls zbd a0_0 _ _ l0_1 _ _ l0_2 zbu zdp _ ?s1 ?s2 ?s3 ?s4 A80.out).mono ?_
      (case s1 => exact sC zal HB)
      (case s2 => exact zav.out)
      (case s3 => exact sC zaw HB)
      (case s4 => exact zax.out)
      rintro e w85 ⟨rfl, hb⟩
      refine ⟨_, rfl, ?_⟩
      replace zc := bR zc hb
      replace zd := bR zd hb
      replace za := bR za hb
      replace zb := bR zb hb
      replace ze := bK ze hb
      replace zg := bK zg hb
      replace zf := bK zf hb
      replace HB := bS (qB3 HB zh zi zj) hb
      (try clear hb)
      refine hK.out _ _ ⟨(blk_cell zf.out 0).trans rfl, (blk_cell zf.out 1).trans rfl, (blk_cell zf.out 2).trans rfl, (blk_cell ze.out 0).trans rfl, (blk_cell ze.out 1).trans rfl, (blk_cell ze.out 2).trans rfl⟩ (fun hHeld => ?_)
      clear hK K
      refine norm_ (a' := ?_) ?_ ?_
      rotate_left
      ·show Act.put _ (some 124) _ = _
       simp only [Act.put, sP, i64_w, i32_w]
       rfl
      refine pP (i := 27) (N := some 125) (bm 29 268435455) rfl rfl HT_.out ?_
      refine pP (i := 28) (N := some 126) (bm 29 536870911) rfl rfl HT_.out ?_
      refine done_ (done_of HT_.out (by kernel_rfl)) ?_
      try go_wp2
      go_meet
      case rel => exact ⟨_, ((zdo != zdp)), (pF), H', ⟨by have := HJ3.out; have := zdf.out; first | omega | exact Nat.le_refl _⟩, ⟨pR zc.out⟩, ⟨pR zd.out⟩, ⟨pR za.out⟩, ⟨pR zb.out⟩, ⟨pK ze.out⟩, ⟨pK zg.out⟩, ⟨pK zf.out⟩, ⟨qB3 HB zh zi zj⟩⟩
     case rest =>
      clear HC64
      obtain ⟨kq, zci, rfl, HA, HJ63, zc, zd, za, zb, ze, zg, zf, HB⟩ := hcut
      cases kq with
      | zero => exact absurd HA.out (by simp [gradinelaw23_CellsSame.j2])
      | succ zb0 =>
       have H := HA.out
       clear HA
       simp only [gradinelaw23_CellsSame.j2] at H
       by_cases c88 : zci = true
       ·subst c88
        rw [if_pos rfl] at H
        exact absurd H (by simp)
       replace c88 := Bool.eq_false_iff.mpr c88
       subst c88
       rw [if_neg (show ¬ (false = true) by decide)] at H
       obtain ⟨zbw, zdk⟩ : ∃ y_ : List Int, y_ = (([2] : List Int)) := ⟨_, rfl⟩
       replace H : (if zbw.length + l0_1.length < 17592186044416 then ((view_Expand.f zb0 a0_0 l0_1 l0_2 (zbw ++ l0_1)).bind fun bt879 => (if za9 = true then (if bt879.2.2.2 = 0 then ((cells_Once.f zb0 bt879.1 bt879.2.1 bt879.2.2.1).bind fun zc4 => (if zc4 = true then (some false) else ((gradinelaw23_same.f).bind fun zc5 => (some zc5)))) else ((gradinelaw23_same.f).bind fun zc6 => (some zc6))) else (some false))) else (none)) = some true := pH zdk H
       have zb8 := aM zdk
       clear zdk
       by_cases c89 : zbw.length + l0_1.length < 17592186044416
       rotate_left
       ·rw [if_neg c89] at H
        exact absurd H (by simp)
       rw [if_pos c89] at H
       have zco := aM c89
       clear c89
       obtain ⟨za5, zdl⟩ : ∃ y_ : List Int, y_ = (zbw ++ l0_1) := ⟨_, rfl⟩
       replace H : ((view_Expand.f zb0 a0_0 l0_1 l0_2 za5).bind fun bt879 => (if za9 = true then (if bt879.2.2.2 = 0 then ((cells_Once.f zb0 bt879.1 bt879.2.1 bt879.2.2.1).bind fun zc4 => (if zc4 = true then (some false) else ((gradinelaw23_same.f).bind fun zc5 => (some zc5)))) else ((gradinelaw23_same.f).bind fun zc6 => (some zc6))) else (some false))) = some true := pH zdl H
       have zcp := aM zdl
       clear zdl
       replace H := Option.bind_eq_some_iff.mp H
       obtain ⟨⟨zbq, zbr, zbs, zbh⟩, ze5, H⟩ := H
       try dsimp only at H
       have A90 := aM ze5
       clear ze5
       by_cases c91 : za9 = true
       rotate_left
       ·replace c91 := Bool.eq_false_iff.mpr c91
        subst c91
        rw [if_neg (show ¬ (false = true) by decide)] at H
        exact absurd H (by simp)
       subst c91
       rw [if_pos rfl] at H
       by_cases c92 : zbh = 0
       rotate_left
       ·rw [if_neg c92] at H
        have c92b0 : (zbh == 0) = false := beq_eq_false_iff_ne.mpr c92
        have c92b1 : (zbh != 0) = true := bne_iff_ne.mpr c92
        replace H := Option.bind_eq_some_iff.mp H
        obtain ⟨zc6, zd6, H⟩ := H
        try dsimp only at H
        have A115 := aM zd6
        clear zd6
        have hv_ := aM (Option.some.inj H)
        clear H
        try go_wp2
        replace zc := aM (Kd.R_drew zc.out)
        replace zd := aM (Kd.R_drew zd.out)
        replace za := aM (Kd.R_drew za.out)
        replace zb := aM (Kd.R_drew zb.out)
        replace ze := aM (blk_drew ze.out)
        replace zg := aM (blk_drew zg.out)
        replace zf := aM (blk_drew zf.out)
        replace HB := aM (below_drew1 HB.out)
        refine start_ (n := 12) (S := fun w' => w'.cell? ⟨zy, 0, none⟩ = some (.int .i64 a0_0) ∧ w'.cell? ⟨zy, 1, none⟩ = some (.slice A0_1 l0_1.length c0_1) ∧ w'.cell? ⟨zy, 2, none⟩ = some (.slice A0_2 l0_2.length c0_2)) (ds := []) (bm 12 0) (by kernel_rfl) rfl rfl (h3 ze) (fun hHeld => ?_); refine with_tabW gradinelaw23_CellsSame.tab14 gradinelaw23_CellsSame.bits14 (fun HT_ HW_ => ?_)
        generalize wc.drew = w116 at zc zd za zb ze zg zf HB hHeld ⊢
        refine pP (i := 2) (N := some 130) (bm 12 4) rfl rfl HT_.out ?_
        refine pT (i := 0) (N := some 128) (bm 12 5) rfl rfl HT_.out HW_.out hHeld (by rintro w' ⟨s0, s1, s2⟩; go_simp; with_reducible rfl) ?_
        refine pT (i := 3) (N := some 131) (bm 12 13) rfl rfl HT_.out HW_.out hHeld (by rintro w' ⟨s0, s1, s2⟩; go_simp; with_reducible rfl) ?_
        refine join_ (σ := Value × Value × Value × Value × Nat) 2 (bm 12 1023) (fun s_ => [(129, s_.1), (132, s_.2.1), (133, .tuple #[.agg #[.int .i64 zbq, s_.2.2.1, s_.2.2.2.1], .int .i64 zbh]), (20, .pointer (some ⟨s_.2.2.2.2, 0, none⟩)), (127, .tuple #[.agg #[.int .i64 zbq, s_.2.2.1, s_.2.2.2.1], .int .i64 zbh]), (134, .agg #[.int .i64 zbq, s_.2.2.1, s_.2.2.2.1]), (135, .int .i64 zbh)]) (fun s_ w' => (w'.cell? ⟨zy, 0, none⟩ = some (.int .i64 a0_0) ∧ w'.cell? ⟨zy, 1, none⟩ = some (.slice A0_1 l0_1.length c0_1) ∧ w'.cell? ⟨zy, 2, none⟩ = some (.slice A0_2 l0_2.length c0_2)) ∧ (Kd.R (Kd.int .i64) 3 w' w.heap.size (fun k_ => some k_ ≠ (s_.2.2.1 : Value).ownBlock ∧ some k_ ≠ (s_.2.2.2.1 : Value).ownBlock ∧ some k_ ≠ (.slice zw zo.length zu : Value).ownBlock ∧ some k_ ≠ (.slice zx zp.length zv : Value).ownBlock ∧ some k_ ≠ (.slice zq zm.length zr : Value).ownBlock ∧ some k_ ≠ (.slice zs zn.length zt : Value).ownBlock) s_.2.1 za5) ∧ (Kd.R (Kd.int .i64) 3 w' w.heap.size (fun k_ => some k_ ≠ (s_.2.1 : Value).ownBlock ∧ some k_ ≠ (s_.2.2.2.1 : Value).ownBlock ∧ some k_ ≠ (.slice zw zo.length zu : Value).ownBlock ∧ some k_ ≠ (.slice zx zp.length zv : Value).ownBlock ∧ some k_ ≠ (.slice zq zm.length zr : Value).ownBlock ∧ some k_ ≠ (.slice zs zn.length zt : Value).ownBlock) s_.2.2.1 zbr) ∧ (Kd.R (Kd.int .i64) 3 w' w.heap.size (fun k_ => some k_ ≠ (s_.2.1 : Value).ownBlock ∧ some k_ ≠ (s_.2.2.1 : Value).ownBlock ∧ some k_ ≠ (.slice zw zo.length zu : Value).ownBlock ∧ some k_ ≠ (.slice zx zp.length zv : Value).ownBlock ∧ some k_ ≠ (.slice zq zm.length zr : Value).ownBlock ∧ some k_ ≠ (.slice zs zn.length zt : Value).ownBlock) s_.2.2.2.1 zbs) ∧ (Kd.R (Kd.int .i64) 3 w' w.heap.size (fun k_ => some k_ ≠ (s_.2.1 : Value).ownBlock ∧ some k_ ≠ (s_.2.2.1 : Value).ownBlock ∧ some k_ ≠ (s_.2.2.2.1 : Value).ownBlock ∧ some k_ ≠ (.slice zx zp.length zv : Value).ownBlock ∧ some k_ ≠ (.slice zq zm.length zr : Value).ownBlock ∧ some k_ ≠ (.slice zs zn.length zt : Value).ownBlock) (.slice zw zo.length zu) zo) ∧ (Kd.R (Kd.int .i64) 3 w' w.heap.size (fun k_ => some k_ ≠ (s_.2.1 : Value).ownBlock ∧ some k_ ≠ (s_.2.2.1 : Value).ownBlock ∧ some k_ ≠ (s_.2.2.2.1 : Value).ownBlock ∧ some k_ ≠ (.slice zw zo.length zu : Value).ownBlock ∧ some k_ ≠ (.slice zq zm.length zr : Value).ownBlock ∧ some k_ ≠ (.slice zs zn.length zt : Value).ownBlock) (.slice zx zp.length zv) zp) ∧ (Kd.R (Kd.int .i64) 3 w' w.heap.size (fun k_ => some k_ ≠ (s_.2.1 : Value).ownBlock ∧ some k_ ≠ (s_.2.2.1 : Value).ownBlock ∧ some k_ ≠ (s_.2.2.2.1 : Value).ownBlock ∧ some k_ ≠ (.slice zw zo.length zu : Value).ownBlock ∧ some k_ ≠ (.slice zx zp.length zv : Value).ownBlock ∧ some k_ ≠ (.slice zs zn.length zt : Value).ownBlock) (.slice zq zm.length zr) zm) ∧ (Kd.R (Kd.int .i64) 3 w' w.heap.size (fun k_ => some k_ ≠ (s_.2.1 : Value).ownBlock ∧ some k_ ≠ (s_.2.2.1 : Value).ownBlock ∧ some k_ ≠ (s_.2.2.2.1 : Value).ownBlock ∧ some k_ ≠ (.slice zw zo.length zu : Value).ownBlock ∧ some k_ ≠ (.slice zx zp.length zv : Value).ownBlock ∧ some k_ ≠ (.slice zq zm.length zr : Value).ownBlock) (.slice zs zn.length zt) zn) ∧ (w'.heap[zy]? = some (.cells #[.int .i64 a0_0, .slice A0_1 l0_1.length c0_1, .slice A0_2 l0_2.length c0_2] 24 (0, 0))) ∧ (w'.heap[zai]? = some (.cells #[.int .i64 zba, .slice zw zo.length zu, .slice zx zp.length zv] 24 (0, 0))) ∧ (w'.heap[zah]? = some (.cells #[.int .i64 za8, .slice zq zm.length zr, .slice zs zn.length zt] 24 (0, 0))) ∧ (w'.heap[s_.2.2.2.2]? = some (.cells #[.int .i64 0, .slice none 0 0, .slice none 0 0] 24 (0, 0))) ∧ (w.heap.size ≤ s_.2.2.2.2) ∧ (w.heap.size ≤ s_.2.2.2.2) ∧ (zy ≠ s_.2.2.2.2) ∧ (s_.2.2.2.2 ≠ zy) ∧ (zai ≠ s_.2.2.2.2) ∧ (s_.2.2.2.2 ≠ zai) ∧ (zah ≠ s_.2.2.2.2) ∧ (s_.2.2.2.2 ≠ zah) ∧ (Below w.heap.size w w')) ?_ ?_
        rotate_left
        ·intro hCont
         refine two_ (i := 1) (j := 9) (Ni := some 129) (Nj := some 20) (bm 12 15) (bm 12 525) rfl rfl rfl rfl (two_of HT_.out (by kernel_rfl)) (by decide) (by decide) (fun K hK => ?_) (fun K hK => ?_)
         ·skip
          refine Kd.R_lit_step (Kd.int .i64) _ 3 ?hg (N := 129) ?hd (xs := ([2] : List Int)) (inner := [.int .i64 2]) (ok := fun _ => True) (okp := fun _ => True) ?hr ?hp (fun _ hk => hk) trivial (Below.refl _ _) (Nat.le_refl _) (by simp) ?_; (case hd => rfl); (case hg => rfl); (case hr => first | (go_simp; done) | (go_simp; rfl)); (case hp => exact (Reps.one (show Kd.M (Kd.int .i64) _ _ _ 2 [.int .i64 2] from rfl) (Reps.none _ _)))
          intro zbi w117 ho118 hb hg_ hnew_
          clear hg_ hnew_
          (first | rw [← zb8.out] at ho118 | (simp only [Int.reduceToNat] at ho118; rw [← zb8.out] at ho118))
          have zak := aM (Kd.R_lower (Kd.R_new' (Kd.R_new' (Kd.R_new' (Kd.R_new' ho118 (Kd.R_lt (pR zc.out))) (Kd.R_lt (pR zd.out))) (Kd.R_lt (pR za.out))) (Kd.R_lt (pR zb.out))) (below_size (qB3 HB zh zi zj)))
          replace zc := eR zc ho118 hb
          replace zd := eR zd ho118 hb
          replace za := eR za ho118 hb
          replace zb := eR zb ho118 hb
          replace ze := bK ze hb
          replace zg := bK zg hb
          replace zf := bK zf hb
          replace HB := bS (qB3 HB zh zi zj) hb
          clear hb ho118
          refine hK.out _ _ (h3 ze) (fun hHeld => ?_)
          clear hK K
          refine norm_ (a' := ?_) ?_ ?_
          rotate_left
          ·show Act.put _ (some 129) _ = _
           simp only [Act.put, sP, i64_w, i32_w]
           rfl
          refine two_ (i := 4) (j := 9) (Ni := some 132) (Nj := some 20) (bm 12 31) (bm 12 527) rfl rfl rfl rfl (two_of HT_.out (by kernel_rfl)) (by decide) (by decide) (fun K hK => ?_) (fun K hK => ?_)
          ·skip
           refine Kd.R_append_rows_step (Kd.int .i64) (w0 := w) w.heap.size (by rfl) (.tmp 129) (.tmp 131) 22 3 (.int .i64 0) 8 rfl Try.underlying22 info3 rfl (by decide) (by omega) zbi zbw l0_1 _ _ _ (fun k_ => some k_ ≠ (.slice zw zo.length zu : Value).ownBlock ∧ some k_ ≠ (.slice zx zp.length zv : Value).ownBlock ∧ some k_ ≠ (.slice zq zm.length zr : Value).ownBlock ∧ some k_ ≠ (.slice zs zn.length zt : Value).ownBlock) (fun _ => False) rfl rfl ?aO ?aR (fun _ _ h => h) (fun _ h => h.elim) ?aF ?aB ?aS ?aL ?_
           (case aR => exact sC zal HB)
           (case aB => exact (qB3 HB zh zi zj))
           (case aF => exact (fun k_ hk => ⟨Kd.fresh' (Kd.R_lt (pR zc.out)) k_ hk, Kd.fresh' (Kd.R_lt (pR zd.out)) k_ hk, Kd.fresh' (Kd.R_lt (pR za.out)) k_ hk, Kd.fresh' (Kd.R_lt (pR zb.out)) k_ hk⟩))
           (case aO => exact (by (with_reducible repeat (first | apply rA | apply rN | apply rD)); exact Kd.R_mono zak.out (fun _ hk => ⟨hk.1.1.1.2, ⟨hk.1.1.2, ⟨hk.1.2, hk.2⟩⟩⟩)))
           (case aS => exact (below_size (qB3 HB zh zi zj)))
           (case aL => have := zco.out; omega)
           intro zbc w119 ho hb hg hat
           rw [← zcp.out] at ho
           replace zc := aM (Kd.R_after (ok := (fun k_ => some k_ ≠ (.slice zx zp.length zv : Value).ownBlock ∧ some k_ ≠ (.slice zq zm.length zr : Value).ownBlock ∧ some k_ ≠ (.slice zs zn.length zt : Value).ownBlock)) (pR zc.out) hg hat)
           replace zd := aM (Kd.R_after (ok := (fun k_ => some k_ ≠ (.slice zw zo.length zu : Value).ownBlock ∧ some k_ ≠ (.slice zq zm.length zr : Value).ownBlock ∧ some k_ ≠ (.slice zs zn.length zt : Value).ownBlock)) (pR zd.out) hg hat)
           replace za := aM (Kd.R_after (ok := (fun k_ => some k_ ≠ (.slice zw zo.length zu : Value).ownBlock ∧ some k_ ≠ (.slice zx zp.length zv : Value).ownBlock ∧ some k_ ≠ (.slice zs zn.length zt : Value).ownBlock)) (pR za.out) hg hat)
           replace zb := aM (Kd.R_after (ok := (fun k_ => some k_ ≠ (.slice zw zo.length zu : Value).ownBlock ∧ some k_ ≠ (.slice zx zp.length zv : Value).ownBlock ∧ some k_ ≠ (.slice zq zm.length zr : Value).ownBlock)) (pR zb.out) hg hat)
           replace ze := aM (blk_grown (g := zy) (pK ze.out) hg (Kd.R_ne zak.out ze.out (by decide)))
           replace zg := aM (blk_grown (g := zai) (pK zg.out) hg (Kd.R_ne zak.out zg.out (by decide)))
           replace zf := aM (blk_grown (g := zah) (pK zf.out) hg (Kd.R_ne zak.out zf.out (by decide)))
           replace HB := aM (hb)
           have z0 := aM (ho)
           clear zak
           clear ho hb hg hat
           obtain ⟨zd7, zd8, zd9⟩ := Kd.R_slice z0.out
           (first | subst zd9 | (injection zd9 with f1_ f2_ f3_; have f4_ := f1_.symm; have f5_ := f3_.symm; clear f1_ f2_ f3_; subst f4_; subst f5_))
           refine hK.out _ _ (h3 ze) (fun hHeld => ?_)
           clear hK K
           refine norm_ (a' := ?_) ?_ ?_
           rotate_left
           ·show Act.put _ (some 132) _ = _
            simp only [Act.put, sP, i64_w, i32_w]
            rfl
           refine two_ (i := 5) (j := 9) (Ni := some 133) (Nj := some 20) (bm 12 63) (bm 12 543) rfl rfl rfl rfl (two_of HT_.out (by kernel_rfl)) (by decide) (by decide) (fun K hK => ?_) (fun K hK => ?_)
           ·skip
            refine goes_ Try.func36 (by kernel_rfl) rfl #[.agg #[.int .i64 a0_0, .slice A0_1 l0_1.length c0_1, .slice A0_2 l0_2.length c0_2], .slice zd7 za5.length zd8] (by rfl) rfl rfl pA ?_
            with_reducible refine (view_Expand.calls zb0 a0_0 _ _ l0_1 _ _ l0_2 _ _ za5 zbq zbr zbs zbh _ ?s1 ?s2 ?s3 ?s4 ?s5 ?s6 A90.out).mono ?_
            (case s1 => exact sC zal HB)
            (case s2 => exact zav.out)
            (case s3 => exact sC zaw HB)
            (case s4 => exact zax.out)
            (case s5 => exact sR z0)
            (case s6 => exact sL z0)
            rintro e w121 ⟨za2, za3, rfl, ho0, ho1, hb⟩
            refine ⟨_, rfl, ?_⟩
            have zap := aM (Kd.R_lower (Kd.R_new' (Kd.R_new' (Kd.R_new' (Kd.R_new' (Kd.R_new' ho0 (Kd.R_lt (pR zc.out))) (Kd.R_lt (pR zd.out))) (Kd.R_lt (pR za.out))) (Kd.R_lt (pR zb.out))) (Kd.R_lt (pR z0.out))) (below_size (qB3 HB zh zi zj)))
            have zaq := aM (Kd.R_lower (Kd.R_new' (Kd.R_new' (Kd.R_new' (Kd.R_new' (Kd.R_new' ho1 (Kd.R_lt (pR zc.out))) (Kd.R_lt (pR zd.out))) (Kd.R_lt (pR za.out))) (Kd.R_lt (pR zb.out))) (Kd.R_lt (pR z0.out))) (below_size (qB3 HB zh zi zj)))
            replace zc := eR2 zc ho0 ho1 hb
            replace zd := eR2 zd ho0 ho1 hb
            replace za := eR2 za ho0 ho1 hb
            replace zb := eR2 zb ho0 ho1 hb
            replace z0 := eR2 z0 ho0 ho1 hb
            replace ze := bK ze hb
            replace zg := bK zg hb
            replace zf := bK zf hb
            replace HB := bS (qB3 HB zh zi zj) hb
            (try clear hb)
            (try clear hk)
            (try clear ho0)
            (try clear ho1)
            refine hK.out _ _ (h3 ze) (fun hHeld => ?_)
            clear hK K
            refine norm_ (a' := ?_) ?_ ?_
            rotate_left
            ·show Act.put _ (some 133) _ = _
             simp only [Act.put, sP, i64_w, i32_w]
             rfl
            refine pP (i := 6) (N := some 127) (bm 12 127) rfl rfl HT_.out ?_
            refine pP (i := 7) (N := some 134) (bm 12 255) rfl rfl HT_.out ?_
            refine pP (i := 8) (N := some 135) (bm 12 511) rfl rfl HT_.out ?_
            refine one_ (i := 9) (N := some 20) (bm 12 1023) rfl rfl (one_of HT_.out (by kernel_rfl)) (by decide) (fun K hK => ?_)
            refine box_step ?hg (N := 20) ?hd (cs := #[.int .i64 0, .slice none 0 0, .slice none 0 0]) (t := 24) ?hr ?_; (case hd => rfl); (case hg => rfl); (case hr => first | (go_simp; done) | (go_simp; rfl))
            intro z4 hg zem hbox hb
            replace zc := bR zc hb
            replace zd := bR zd hb
            replace za := bR za hb
            replace zb := bR zb hb
            replace z0 := bR z0 hb
            replace zap := bR zap hb
            replace zaq := bR zaq hb
            have z2 := aM (hbox)
            have zaz := gE (w := w) hg (qB3 HB zh zi zj)
            have zaa := zaz
            replace HB := bS (qB3 HB zh zi zj) hb
            have zl := nL hg ze
            have zae := nG hg ze
            replace ze := bK ze hb
            have z7 := nL hg zg
            have zaf := nG hg zg
            replace zg := bK zg hb
            have z8 := nL hg zf
            have zag := nG hg zf
            replace zf := bK zf hb
            clear hb hbox hg
            refine hK.out _ _ (h3 ze) (fun hHeld => ?_)
            clear hK K
            refine norm_ (a' := ?_) ?_ ?_
            rotate_left
            ·show Act.put _ (some 20) _ = _
             simp only [Act.put, sP, i64_w, i32_w]
             rfl
            exact norm_ (by simp only [putAll, Act.put, sP]) (hCont (zbi, .slice zd7 za5.length zd8, za2, za3, z4) _ ⟨hHeld, (by (with_reducible repeat (first | apply rA | apply rN | apply rD)); exact Kd.R_mono z0.out (fun _ hk => ⟨hk.1.2, ⟨hk.2, ⟨hk.1.1.1, ⟨hk.1.1.2.1, ⟨hk.1.1.2.2.1, hk.1.1.2.2.2⟩⟩⟩⟩⟩)), (by (with_reducible repeat (first | apply rA | apply rN | apply rD)); exact Kd.R_mono zap.out (fun _ hk => ⟨hk.2, ⟨hk.1.1.1.1.1, ⟨hk.1.1.1.1.2, ⟨hk.1.1.1.2, ⟨hk.1.1.2, hk.1.2⟩⟩⟩⟩⟩)), (by (with_reducible repeat (first | apply rA | apply rN | apply rD)); exact Kd.R_mono zaq.out (fun _ hk => ⟨hk.2, ⟨hk.1.1.1.1.1, ⟨hk.1.1.1.1.2, ⟨hk.1.1.1.2, ⟨hk.1.1.2, hk.1.2⟩⟩⟩⟩⟩)), (by (with_reducible repeat (first | apply rA | apply rN | apply rD)); exact Kd.R_mono zc.out (fun _ hk => ⟨hk.1.1.2, ⟨hk.1.2, ⟨hk.2, ⟨hk.1.1.1.1, ⟨hk.1.1.1.2.1, hk.1.1.1.2.2⟩⟩⟩⟩⟩)), (by (with_reducible repeat (first | apply rA | apply rN | apply rD)); exact Kd.R_mono zd.out (fun _ hk => ⟨hk.1.1.2, ⟨hk.1.2, ⟨hk.2, ⟨hk.1.1.1.1, ⟨hk.1.1.1.2.1, hk.1.1.1.2.2⟩⟩⟩⟩⟩)), (by (with_reducible repeat (first | apply rA | apply rN | apply rD)); exact Kd.R_mono za.out (fun _ hk => ⟨hk.1.1.2, ⟨hk.1.2, ⟨hk.2, ⟨hk.1.1.1.1, ⟨hk.1.1.1.2.1, hk.1.1.1.2.2⟩⟩⟩⟩⟩)), (by (with_reducible repeat (first | apply rA | apply rN | apply rD)); exact Kd.R_mono zb.out (fun _ hk => ⟨hk.1.1.2, ⟨hk.1.2, ⟨hk.2, ⟨hk.1.1.1.1, ⟨hk.1.1.1.2.1, hk.1.1.1.2.2⟩⟩⟩⟩⟩)), (pK ze.out), (pK zg.out), (pK zf.out), (pK z2.out), zaz.out, zaa.out, zl.out, zae.out, z7.out, zaf.out, z8.out, zag.out, (qB4 HB zh zi zj zaa)⟩)
           ·skip
            refine box_step ?hg (N := 20) ?hd (cs := #[.int .i64 0, .slice none 0 0, .slice none 0 0]) (t := 24) ?hr ?_; (case hd => rfl); (case hg => rfl); (case hr => first | (go_simp; done) | (go_simp; rfl))
            intro z4 hg ze6 hbox hb
            replace zc := bR zc hb
            replace zd := bR zd hb
            replace za := bR za hb
            replace zb := bR zb hb
            replace z0 := bR z0 hb
            have z2 := aM (hbox)
            have zaz := gE (w := w) hg (qB3 HB zh zi zj)
            have zaa := zaz
            replace HB := bS (qB3 HB zh zi zj) hb
            have zl := nL hg ze
            have zae := nG hg ze
            replace ze := bK ze hb
            have z7 := nL hg zg
            have zaf := nG hg zg
            replace zg := bK zg hb
            have z8 := nL hg zf
            have zag := nG hg zf
            replace zf := bK zf hb
            clear hb hbox hg
            obtain ⟨zb9, zca, zcb⟩ := Kd.R_slice z0.out
            (first | subst zcb | (injection zcb with f1_ f2_ f3_; have f4_ := f1_.symm; have f5_ := f3_.symm; clear f1_ f2_ f3_; subst f4_; subst f5_))
            refine hK.out _ _ (h3 ze) (fun hHeld => ?_)
            clear hK K
            refine norm_ (a' := ?_) ?_ ?_
            rotate_left
            ·show Act.put _ (some 20) _ = _
             simp only [Act.put, sP, i64_w, i32_w]
             rfl
            refine one_ (i := 5) (N := some 133) (bm 12 575) rfl rfl (one_of HT_.out (by kernel_rfl)) (by decide) (fun K hK => ?_)
            refine goes_ Try.func36 (by kernel_rfl) rfl #[.agg #[.int .i64 a0_0, .slice A0_1 l0_1.length c0_1, .slice A0_2 l0_2.length c0_2], .slice zb9 za5.length zca] (by rfl) rfl rfl pA ?_
            with_reducible refine (view_Expand.calls zb0 a0_0 _ _ l0_1 _ _ l0_2 _ _ za5 zbq zbr zbs zbh _ ?s1 ?s2 ?s3 ?s4 ?s5 ?s6 A90.out).mono ?_
            (case s1 => exact sC zal HB)
            (case s2 => exact zav.out)
            (case s3 => exact sC zaw HB)
            (case s4 => exact zax.out)
            (case s5 => exact sR z0)
            (case s6 => exact sL z0)
            rintro e zem ⟨za2, za3, rfl, ho0, ho1, hb⟩
            refine ⟨_, rfl, ?_⟩
            have zap := aM (Kd.R_lower (Kd.R_new' (Kd.R_new' (Kd.R_new' (Kd.R_new' (Kd.R_new' ho0 (Kd.R_lt (pR zc.out))) (Kd.R_lt (pR zd.out))) (Kd.R_lt (pR za.out))) (Kd.R_lt (pR zb.out))) (Kd.R_lt (pR z0.out))) (below_size (qB4 HB zh zi zj zaa)))
            have zaq := aM (Kd.R_lower (Kd.R_new' (Kd.R_new' (Kd.R_new' (Kd.R_new' (Kd.R_new' ho1 (Kd.R_lt (pR zc.out))) (Kd.R_lt (pR zd.out))) (Kd.R_lt (pR za.out))) (Kd.R_lt (pR zb.out))) (Kd.R_lt (pR z0.out))) (below_size (qB4 HB zh zi zj zaa)))
            replace zc := eR2 zc ho0 ho1 hb
            replace zd := eR2 zd ho0 ho1 hb
            replace za := eR2 za ho0 ho1 hb
            replace zb := eR2 zb ho0 ho1 hb
            replace z0 := eR2 z0 ho0 ho1 hb
            replace ze := bK ze hb
            replace zg := bK zg hb
            replace zf := bK zf hb
            replace z2 := bK z2 hb
            replace HB := bS (qB4 HB zh zi zj zaa) hb
            (try clear hb)
            (try clear ho0)
            (try clear ho1)
            refine hK.out _ _ (h3 ze) (fun hHeld => ?_)
            clear hK K
            refine norm_ (a' := ?_) ?_ ?_
            rotate_left
            ·show Act.put _ (some 133) _ = _
             simp only [Act.put, sP, i64_w, i32_w]
             rfl
            refine pP (i := 6) (N := some 127) (bm 12 639) rfl rfl HT_.out ?_
            refine pP (i := 7) (N := some 134) (bm 12 767) rfl rfl HT_.out ?_
            refine pP (i := 8) (N := some 135) (bm 12 1023) rfl rfl HT_.out ?_
            exact norm_ (by simp only [putAll, Act.put, sP]) (hCont (zbi, .slice zb9 za5.length zca, za2, za3, z4) _ ⟨hHeld, (by (with_reducible repeat (first | apply rA | apply rN | apply rD)); exact Kd.R_mono z0.out (fun _ hk => ⟨hk.1.2, ⟨hk.2, ⟨hk.1.1.1, ⟨hk.1.1.2.1, ⟨hk.1.1.2.2.1, hk.1.1.2.2.2⟩⟩⟩⟩⟩)), (by (with_reducible repeat (first | apply rA | apply rN | apply rD)); exact Kd.R_mono zap.out (fun _ hk => ⟨hk.2, ⟨hk.1.1.1.1.1, ⟨hk.1.1.1.1.2, ⟨hk.1.1.1.2, ⟨hk.1.1.2, hk.1.2⟩⟩⟩⟩⟩)), (by (with_reducible repeat (first | apply rA | apply rN | apply rD)); exact Kd.R_mono zaq.out (fun _ hk => ⟨hk.2, ⟨hk.1.1.1.1.1, ⟨hk.1.1.1.1.2, ⟨hk.1.1.1.2, ⟨hk.1.1.2, hk.1.2⟩⟩⟩⟩⟩)), (by (with_reducible repeat (first | apply rA | apply rN | apply rD)); exact Kd.R_mono zc.out (fun _ hk => ⟨hk.1.1.2, ⟨hk.1.2, ⟨hk.2, ⟨hk.1.1.1.1, ⟨hk.1.1.1.2.1, hk.1.1.1.2.2⟩⟩⟩⟩⟩)), (by (with_reducible repeat (first | apply rA | apply rN | apply rD)); exact Kd.R_mono zd.out (fun _ hk => ⟨hk.1.1.2, ⟨hk.1.2, ⟨hk.2, ⟨hk.1.1.1.1, ⟨hk.1.1.1.2.1, hk.1.1.1.2.2⟩⟩⟩⟩⟩)), (by (with_reducible repeat (first | apply rA | apply rN | apply rD)); exact Kd.R_mono za.out (fun _ hk => ⟨hk.1.1.2, ⟨hk.1.2, ⟨hk.2, ⟨hk.1.1.1.1, ⟨hk.1.1.1.2.1, hk.1.1.1.2.2⟩⟩⟩⟩⟩)), (by (with_reducible repeat (first | apply rA | apply rN | apply rD)); exact Kd.R_mono zb.out (fun _ hk => ⟨hk.1.1.2, ⟨hk.1.2, ⟨hk.2, ⟨hk.1.1.1.1, ⟨hk.1.1.1.2.1, hk.1.1.1.2.2⟩⟩⟩⟩⟩)), (pK ze.out), (pK zg.out), (pK zf.out), (pK z2.out), zaz.out, zaa.out, zl.out, zae.out, z7.out, zaf.out, z8.out, zag.out, (qB4 HB zh zi zj zaa)⟩)
          ·skip
           refine box_step ?hg (N := 20) ?hd (cs := #[.int .i64 0, .slice none 0 0, .slice none 0 0]) (t := 24) ?hr ?_; (case hd => rfl); (case hg => rfl); (case hr => first | (go_simp; done) | (go_simp; rfl))
           intro z4 hg w119 hbox hb
           replace zc := bR zc hb
           replace zd := bR zd hb
           replace za := bR za hb
           replace zb := bR zb hb
           replace zak := bR zak hb
           have z2 := aM (hbox)
           have zaz := gE (w := w) hg (qB3 HB zh zi zj)
           have zaa := zaz
           replace HB := bS (qB3 HB zh zi zj) hb
           have zl := nL hg ze
           have zae := nG hg ze
           replace ze := bK ze hb
           have z7 := nL hg zg
           have zaf := nG hg zg
           replace zg := bK zg hb
           have z8 := nL hg zf
           have zag := nG hg zf
           replace zf := bK zf hb
           clear hb hbox hg
           refine hK.out _ _ (h3 ze) (fun hHeld => ?_)
           clear hK K
           refine norm_ (a' := ?_) ?_ ?_
           rotate_left
           ·show Act.put _ (some 20) _ = _
            simp only [Act.put, sP, i64_w, i32_w]
            rfl
           refine one_ (i := 4) (N := some 132) (bm 12 543) rfl rfl (one_of HT_.out (by kernel_rfl)) (by decide) (fun K hK => ?_)
           refine Kd.R_append_rows_step (Kd.int .i64) (w0 := w) w.heap.size (by rfl) (.tmp 129) (.tmp 131) 22 3 (.int .i64 0) 8 rfl Try.underlying22 info3 rfl (by decide) (by omega) zbi zbw l0_1 _ _ _ (fun k_ => some k_ ≠ (.slice zw zo.length zu : Value).ownBlock ∧ some k_ ≠ (.slice zx zp.length zv : Value).ownBlock ∧ some k_ ≠ (.slice zq zm.length zr : Value).ownBlock ∧ some k_ ≠ (.slice zs zn.length zt : Value).ownBlock) (fun _ => False) rfl rfl ?aO ?aR (fun _ _ h => h) (fun _ h => h.elim) ?aF ?aB ?aS ?aL ?_
           (case aR => exact sC zal HB)
           (case aB => exact (qB4 HB zh zi zj zaa))
           (case aF => exact (fun k_ hk => ⟨Kd.fresh' (Kd.R_lt (pR zc.out)) k_ hk, Kd.fresh' (Kd.R_lt (pR zd.out)) k_ hk, Kd.fresh' (Kd.R_lt (pR za.out)) k_ hk, Kd.fresh' (Kd.R_lt (pR zb.out)) k_ hk⟩))
           (case aO => exact (by (with_reducible repeat (first | apply rA | apply rN | apply rD)); exact Kd.R_mono zak.out (fun _ hk => ⟨hk.1.1.1.2, ⟨hk.1.1.2, ⟨hk.1.2, hk.2⟩⟩⟩)))
           (case aS => exact (below_size (qB4 HB zh zi zj zaa)))
           (case aL => have := zco.out; omega)
           intro zbc ze6 ho hb hg hat
           rw [← zcp.out] at ho
           replace zc := aM (Kd.R_after (ok := (fun k_ => some k_ ≠ (.slice zx zp.length zv : Value).ownBlock ∧ some k_ ≠ (.slice zq zm.length zr : Value).ownBlock ∧ some k_ ≠ (.slice zs zn.length zt : Value).ownBlock)) (pR zc.out) hg hat)
           replace zd := aM (Kd.R_after (ok := (fun k_ => some k_ ≠ (.slice zw zo.length zu : Value).ownBlock ∧ some k_ ≠ (.slice zq zm.length zr : Value).ownBlock ∧ some k_ ≠ (.slice zs zn.length zt : Value).ownBlock)) (pR zd.out) hg hat)
           replace za := aM (Kd.R_after (ok := (fun k_ => some k_ ≠ (.slice zw zo.length zu : Value).ownBlock ∧ some k_ ≠ (.slice zx zp.length zv : Value).ownBlock ∧ some k_ ≠ (.slice zs zn.length zt : Value).ownBlock)) (pR za.out) hg hat)
           replace zb := aM (Kd.R_after (ok := (fun k_ => some k_ ≠ (.slice zw zo.length zu : Value).ownBlock ∧ some k_ ≠ (.slice zx zp.length zv : Value).ownBlock ∧ some k_ ≠ (.slice zq zm.length zr : Value).ownBlock)) (pR zb.out) hg hat)
           replace ze := aM (blk_grown (g := zy) (pK ze.out) hg (Kd.R_ne zak.out ze.out (by decide)))
           replace zg := aM (blk_grown (g := zai) (pK zg.out) hg (Kd.R_ne zak.out zg.out (by decide)))
           replace zf := aM (blk_grown (g := zah) (pK zf.out) hg (Kd.R_ne zak.out zf.out (by decide)))
           replace z2 := aM (blk_grown (g := z4) (pK z2.out) hg (Kd.R_ne zak.out z2.out (by decide)))
           replace HB := aM (hb)
           have z0 := aM (ho)
           clear zak
           clear ho hb hg hat
           obtain ⟨zb9, zca, zcb⟩ := Kd.R_slice z0.out
           (first | subst zcb | (injection zcb with f1_ f2_ f3_; have f4_ := f1_.symm; have f5_ := f3_.symm; clear f1_ f2_ f3_; subst f4_; subst f5_))
           refine hK.out _ _ (h3 ze) (fun hHeld => ?_)
           clear hK K
           refine norm_ (a' := ?_) ?_ ?_
           rotate_left
           ·show Act.put _ (some 132) _ = _
            simp only [Act.put, sP, i64_w, i32_w]
            rfl
           refine one_ (i := 5) (N := some 133) (bm 12 575) rfl rfl (one_of HT_.out (by kernel_rfl)) (by decide) (fun K hK => ?_)
           refine goes_ Try.func36 (by kernel_rfl) rfl #[.agg #[.int .i64 a0_0, .slice A0_1 l0_1.length c0_1, .slice A0_2 l0_2.length c0_2], .slice zb9 za5.length zca] (by rfl) rfl rfl pA ?_
           with_reducible refine (view_Expand.calls zb0 a0_0 _ _ l0_1 _ _ l0_2 _ _ za5 zbq zbr zbs zbh _ ?s1 ?s2 ?s3 ?s4 ?s5 ?s6 A90.out).mono ?_
           (case s1 => exact sC zal HB)
           (case s2 => exact zav.out)
           (case s3 => exact sC zaw HB)
           (case s4 => exact zax.out)
           (case s5 => exact sR z0)
           (case s6 => exact sL z0)
           rintro e zem ⟨za2, za3, rfl, ho0, ho1, hb⟩
           refine ⟨_, rfl, ?_⟩
           have zap := aM (Kd.R_lower (Kd.R_new' (Kd.R_new' (Kd.R_new' (Kd.R_new' (Kd.R_new' ho0 (Kd.R_lt (pR zc.out))) (Kd.R_lt (pR zd.out))) (Kd.R_lt (pR za.out))) (Kd.R_lt (pR zb.out))) (Kd.R_lt (pR z0.out))) (below_size (qB4 HB zh zi zj zaa)))
           have zaq := aM (Kd.R_lower (Kd.R_new' (Kd.R_new' (Kd.R_new' (Kd.R_new' (Kd.R_new' ho1 (Kd.R_lt (pR zc.out))) (Kd.R_lt (pR zd.out))) (Kd.R_lt (pR za.out))) (Kd.R_lt (pR zb.out))) (Kd.R_lt (pR z0.out))) (below_size (qB4 HB zh zi zj zaa)))
           replace zc := eR2 zc ho0 ho1 hb
           replace zd := eR2 zd ho0 ho1 hb
           replace za := eR2 za ho0 ho1 hb
           replace zb := eR2 zb ho0 ho1 hb
           replace z0 := eR2 z0 ho0 ho1 hb
           replace ze := bK ze hb
           replace zg := bK zg hb
           replace zf := bK zf hb
           replace z2 := bK z2 hb
           replace HB := bS (qB4 HB zh zi zj zaa) hb
           (try clear hb)
           (try clear hk)
           (try clear ho0)
           (try clear ho1)
           refine hK.out _ _ (h3 ze) (fun hHeld => ?_)
           clear hK K
           refine norm_ (a' := ?_) ?_ ?_
           rotate_left
           ·show Act.put _ (some 133) _ = _
            simp only [Act.put, sP, i64_w, i32_w]
            rfl
           refine pP (i := 6) (N := some 127) (bm 12 639) rfl rfl HT_.out ?_
           refine pP (i := 7) (N := some 134) (bm 12 767) rfl rfl HT_.out ?_
           refine pP (i := 8) (N := some 135) (bm 12 1023) rfl rfl HT_.out ?_
           exact norm_ (by simp only [putAll, Act.put, sP]) (hCont (zbi, .slice zb9 za5.length zca, za2, za3, z4) _ ⟨hHeld, (by (with_reducible repeat (first | apply rA | apply rN | apply rD)); exact Kd.R_mono z0.out (fun _ hk => ⟨hk.1.2, ⟨hk.2, ⟨hk.1.1.1, ⟨hk.1.1.2.1, ⟨hk.1.1.2.2.1, hk.1.1.2.2.2⟩⟩⟩⟩⟩)), (by (with_reducible repeat (first | apply rA | apply rN | apply rD)); exact Kd.R_mono zap.out (fun _ hk => ⟨hk.2, ⟨hk.1.1.1.1.1, ⟨hk.1.1.1.1.2, ⟨hk.1.1.1.2, ⟨hk.1.1.2, hk.1.2⟩⟩⟩⟩⟩)), (by (with_reducible repeat (first | apply rA | apply rN | apply rD)); exact Kd.R_mono zaq.out (fun _ hk => ⟨hk.2, ⟨hk.1.1.1.1.1, ⟨hk.1.1.1.1.2, ⟨hk.1.1.1.2, ⟨hk.1.1.2, hk.1.2⟩⟩⟩⟩⟩)), (by (with_reducible repeat (first | apply rA | apply rN | apply rD)); exact Kd.R_mono zc.out (fun _ hk => ⟨hk.1.1.2, ⟨hk.1.2, ⟨hk.2, ⟨hk.1.1.1.1, ⟨hk.1.1.1.2.1, hk.1.1.1.2.2⟩⟩⟩⟩⟩)), (by (with_reducible repeat (first | apply rA | apply rN | apply rD)); exact Kd.R_mono zd.out (fun _ hk => ⟨hk.1.1.2, ⟨hk.1.2, ⟨hk.2, ⟨hk.1.1.1.1, ⟨hk.1.1.1.2.1, hk.1.1.1.2.2⟩⟩⟩⟩⟩)), (by (with_reducible repeat (first | apply rA | apply rN | apply rD)); exact Kd.R_mono za.out (fun _ hk => ⟨hk.1.1.2, ⟨hk.1.2, ⟨hk.2, ⟨hk.1.1.1.1, ⟨hk.1.1.1.2.1, hk.1.1.1.2.2⟩⟩⟩⟩⟩)), (by (with_reducible repeat (first | apply rA | apply rN | apply rD)); exact Kd.R_mono zb.out (fun _ hk => ⟨hk.1.1.2, ⟨hk.1.2, ⟨hk.2, ⟨hk.1.1.1.1, ⟨hk.1.1.1.2.1, hk.1.1.1.2.2⟩⟩⟩⟩⟩)), (pK ze.out), (pK zg.out), (pK zf.out), (pK z2.out), zaz.out, zaa.out, zl.out, zae.out, z7.out, zaf.out, z8.out, zag.out, (qB4 HB zh zi zj zaa)⟩)
         ·skip
          refine box_step ?hg (N := 20) ?hd (cs := #[.int .i64 0, .slice none 0 0, .slice none 0 0]) (t := 24) ?hr ?_; (case hd => rfl); (case hg => rfl); (case hr => first | (go_simp; done) | (go_simp; rfl))
          intro z4 hg w117 hbox hb
          replace zc := bR zc hb
          replace zd := bR zd hb
          replace za := bR za hb
          replace zb := bR zb hb
          have z2 := aM (hbox)
          have zaz := gE (w := w) hg (qB3 HB zh zi zj)
          have zaa := zaz
          replace HB := bS (qB3 HB zh zi zj) hb
          have zl := nL hg ze
          have zae := nG hg ze
          replace ze := bK ze hb
          have z7 := nL hg zg
          have zaf := nG hg zg
          replace zg := bK zg hb
          have z8 := nL hg zf
          have zag := nG hg zf
          replace zf := bK zf hb
          clear hb hbox hg
          refine hK.out _ _ (h3 ze) (fun hHeld => ?_)
          clear hK K
          refine norm_ (a' := ?_) ?_ ?_
          rotate_left
          ·show Act.put _ (some 20) _ = _
           simp only [Act.put, sP, i64_w, i32_w]
           rfl
          refine one_ (i := 1) (N := some 129) (bm 12 527) rfl rfl (one_of HT_.out (by kernel_rfl)) (by decide) (fun K hK => ?_)
          refine Kd.R_lit_step (Kd.int .i64) _ 3 ?hg (N := 129) ?hd (xs := ([2] : List Int)) (inner := [.int .i64 2]) (ok := fun _ => True) (okp := fun _ => True) ?hr ?hp (fun _ hk => hk) trivial (Below.refl _ _) (Nat.le_refl _) (by simp) ?_; (case hd => rfl); (case hg => rfl); (case hr => first | (go_simp; done) | (go_simp; rfl)); (case hp => exact (Reps.one (show Kd.M (Kd.int .i64) _ _ _ 2 [.int .i64 2] from rfl) (Reps.none _ _)))
          intro zbi w118 ho119 hb hg_ hnew_
          clear hg_ hnew_
          (first | rw [← zb8.out] at ho119 | (simp only [Int.reduceToNat] at ho119; rw [← zb8.out] at ho119))
          have zak := aM (Kd.R_lower (Kd.R_new' (Kd.R_new' (Kd.R_new' (Kd.R_new' ho119 (Kd.R_lt (pR zc.out))) (Kd.R_lt (pR zd.out))) (Kd.R_lt (pR za.out))) (Kd.R_lt (pR zb.out))) (below_size (qB4 HB zh zi zj zaa)))
          replace zc := eR zc ho119 hb
          replace zd := eR zd ho119 hb
          replace za := eR za ho119 hb
          replace zb := eR zb ho119 hb
          replace ze := bK ze hb
          replace zg := bK zg hb
          replace zf := bK zf hb
          replace z2 := bK z2 hb
          replace HB := bS (qB4 HB zh zi zj zaa) hb
          clear hb ho119
          refine hK.out _ _ (h3 ze) (fun hHeld => ?_)
          clear hK K
          refine norm_ (a' := ?_) ?_ ?_
          rotate_left
          ·show Act.put _ (some 129) _ = _
           simp only [Act.put, sP, i64_w, i32_w]
           rfl
          refine one_ (i := 4) (N := some 132) (bm 12 543) rfl rfl (one_of HT_.out (by kernel_rfl)) (by decide) (fun K hK => ?_)
          refine Kd.R_append_rows_step (Kd.int .i64) (w0 := w) w.heap.size (by rfl) (.tmp 129) (.tmp 131) 22 3 (.int .i64 0) 8 rfl Try.underlying22 info3 rfl (by decide) (by omega) zbi zbw l0_1 _ _ _ (fun k_ => some k_ ≠ (.slice zw zo.length zu : Value).ownBlock ∧ some k_ ≠ (.slice zx zp.length zv : Value).ownBlock ∧ some k_ ≠ (.slice zq zm.length zr : Value).ownBlock ∧ some k_ ≠ (.slice zs zn.length zt : Value).ownBlock) (fun _ => False) rfl rfl ?aO ?aR (fun _ _ h => h) (fun _ h => h.elim) ?aF ?aB ?aS ?aL ?_
          (case aR => exact sC zal HB)
          (case aB => exact (qB4 HB zh zi zj zaa))
          (case aF => exact (fun k_ hk => ⟨Kd.fresh' (Kd.R_lt (pR zc.out)) k_ hk, Kd.fresh' (Kd.R_lt (pR zd.out)) k_ hk, Kd.fresh' (Kd.R_lt (pR za.out)) k_ hk, Kd.fresh' (Kd.R_lt (pR zb.out)) k_ hk⟩))
          (case aO => exact (by (with_reducible repeat (first | apply rA | apply rN | apply rD)); exact Kd.R_mono zak.out (fun _ hk => ⟨hk.1.1.1.2, ⟨hk.1.1.2, ⟨hk.1.2, hk.2⟩⟩⟩)))
          (case aS => exact (below_size (qB4 HB zh zi zj zaa)))
          (case aL => have := zco.out; omega)
          intro zbc ze6 ho hb hg hat
          rw [← zcp.out] at ho
          replace zc := aM (Kd.R_after (ok := (fun k_ => some k_ ≠ (.slice zx zp.length zv : Value).ownBlock ∧ some k_ ≠ (.slice zq zm.length zr : Value).ownBlock ∧ some k_ ≠ (.slice zs zn.length zt : Value).ownBlock)) (pR zc.out) hg hat)
          replace zd := aM (Kd.R_after (ok := (fun k_ => some k_ ≠ (.slice zw zo.length zu : Value).ownBlock ∧ some k_ ≠ (.slice zq zm.length zr : Value).ownBlock ∧ some k_ ≠ (.slice zs zn.length zt : Value).ownBlock)) (pR zd.out) hg hat)
          replace za := aM (Kd.R_after (ok := (fun k_ => some k_ ≠ (.slice zw zo.length zu : Value).ownBlock ∧ some k_ ≠ (.slice zx zp.length zv : Value).ownBlock ∧ some k_ ≠ (.slice zs zn.length zt : Value).ownBlock)) (pR za.out) hg hat)
          replace zb := aM (Kd.R_after (ok := (fun k_ => some k_ ≠ (.slice zw zo.length zu : Value).ownBlock ∧ some k_ ≠ (.slice zx zp.length zv : Value).ownBlock ∧ some k_ ≠ (.slice zq zm.length zr : Value).ownBlock)) (pR zb.out) hg hat)
          replace ze := aM (blk_grown (g := zy) (pK ze.out) hg (Kd.R_ne zak.out ze.out (by decide)))
          replace zg := aM (blk_grown (g := zai) (pK zg.out) hg (Kd.R_ne zak.out zg.out (by decide)))
          replace zf := aM (blk_grown (g := zah) (pK zf.out) hg (Kd.R_ne zak.out zf.out (by decide)))
          replace z2 := aM (blk_grown (g := z4) (pK z2.out) hg (Kd.R_ne zak.out z2.out (by decide)))
          replace HB := aM (hb)
          have z0 := aM (ho)
          clear zak
          clear ho hb hg hat
          obtain ⟨zb9, zca, zcb⟩ := Kd.R_slice z0.out
          (first | subst zcb | (injection zcb with f1_ f2_ f3_; have f4_ := f1_.symm; have f5_ := f3_.symm; clear f1_ f2_ f3_; subst f4_; subst f5_))
          refine hK.out _ _ (h3 ze) (fun hHeld => ?_)
          clear hK K
          refine norm_ (a' := ?_) ?_ ?_
          rotate_left
          ·show Act.put _ (some 132) _ = _
           simp only [Act.put, sP, i64_w, i32_w]
           rfl
          refine one_ (i := 5) (N := some 133) (bm 12 575) rfl rfl (one_of HT_.out (by kernel_rfl)) (by decide) (fun K hK => ?_)
          refine goes_ Try.func36 (by kernel_rfl) rfl #[.agg #[.int .i64 a0_0, .slice A0_1 l0_1.length c0_1, .slice A0_2 l0_2.length c0_2], .slice zb9 za5.length zca] (by rfl) rfl rfl pA ?_
          with_reducible refine (view_Expand.calls zb0 a0_0 _ _ l0_1 _ _ l0_2 _ _ za5 zbq zbr zbs zbh _ ?s1 ?s2 ?s3 ?s4 ?s5 ?s6 A90.out).mono ?_
          (case s1 => exact sC zal HB)
          (case s2 => exact zav.out)
          (case s3 => exact sC zaw HB)
          (case s4 => exact zax.out)
          (case s5 => exact sR z0)
          (case s6 => exact sL z0)
          rintro e zem ⟨za2, za3, rfl, ho0, ho1, hb⟩
          refine ⟨_, rfl, ?_⟩
          have zap := aM (Kd.R_lower (Kd.R_new' (Kd.R_new' (Kd.R_new' (Kd.R_new' (Kd.R_new' ho0 (Kd.R_lt (pR zc.out))) (Kd.R_lt (pR zd.out))) (Kd.R_lt (pR za.out))) (Kd.R_lt (pR zb.out))) (Kd.R_lt (pR z0.out))) (below_size (qB4 HB zh zi zj zaa)))
          have zaq := aM (Kd.R_lower (Kd.R_new' (Kd.R_new' (Kd.R_new' (Kd.R_new' (Kd.R_new' ho1 (Kd.R_lt (pR zc.out))) (Kd.R_lt (pR zd.out))) (Kd.R_lt (pR za.out))) (Kd.R_lt (pR zb.out))) (Kd.R_lt (pR z0.out))) (below_size (qB4 HB zh zi zj zaa)))
          replace zc := eR2 zc ho0 ho1 hb
          replace zd := eR2 zd ho0 ho1 hb
          replace za := eR2 za ho0 ho1 hb
          replace zb := eR2 zb ho0 ho1 hb
          replace z0 := eR2 z0 ho0 ho1 hb
          replace ze := bK ze hb
          replace zg := bK zg hb
          replace zf := bK zf hb
          replace z2 := bK z2 hb
          replace HB := bS (qB4 HB zh zi zj zaa) hb
          (try clear hb)
          (try clear hk)
          (try clear ho0)
          (try clear ho1)
          refine hK.out _ _ (h3 ze) (fun hHeld => ?_)
          clear hK K
          refine norm_ (a' := ?_) ?_ ?_
          rotate_left
          ·show Act.put _ (some 133) _ = _
           simp only [Act.put, sP, i64_w, i32_w]
           rfl
          refine pP (i := 6) (N := some 127) (bm 12 639) rfl rfl HT_.out ?_
          refine pP (i := 7) (N := some 134) (bm 12 767) rfl rfl HT_.out ?_
          refine pP (i := 8) (N := some 135) (bm 12 1023) rfl rfl HT_.out ?_
          exact norm_ (by simp only [putAll, Act.put, sP]) (hCont (zbi, .slice zb9 za5.length zca, za2, za3, z4) _ ⟨hHeld, (by (with_reducible repeat (first | apply rA | apply rN | apply rD)); exact Kd.R_mono z0.out (fun _ hk => ⟨hk.1.2, ⟨hk.2, ⟨hk.1.1.1, ⟨hk.1.1.2.1, ⟨hk.1.1.2.2.1, hk.1.1.2.2.2⟩⟩⟩⟩⟩)), (by (with_reducible repeat (first | apply rA | apply rN | apply rD)); exact Kd.R_mono zap.out (fun _ hk => ⟨hk.2, ⟨hk.1.1.1.1.1, ⟨hk.1.1.1.1.2, ⟨hk.1.1.1.2, ⟨hk.1.1.2, hk.1.2⟩⟩⟩⟩⟩)), (by (with_reducible repeat (first | apply rA | apply rN | apply rD)); exact Kd.R_mono zaq.out (fun _ hk => ⟨hk.2, ⟨hk.1.1.1.1.1, ⟨hk.1.1.1.1.2, ⟨hk.1.1.1.2, ⟨hk.1.1.2, hk.1.2⟩⟩⟩⟩⟩)), (by (with_reducible repeat (first | apply rA | apply rN | apply rD)); exact Kd.R_mono zc.out (fun _ hk => ⟨hk.1.1.2, ⟨hk.1.2, ⟨hk.2, ⟨hk.1.1.1.1, ⟨hk.1.1.1.2.1, hk.1.1.1.2.2⟩⟩⟩⟩⟩)), (by (with_reducible repeat (first | apply rA | apply rN | apply rD)); exact Kd.R_mono zd.out (fun _ hk => ⟨hk.1.1.2, ⟨hk.1.2, ⟨hk.2, ⟨hk.1.1.1.1, ⟨hk.1.1.1.2.1, hk.1.1.1.2.2⟩⟩⟩⟩⟩)), (by (with_reducible repeat (first | apply rA | apply rN | apply rD)); exact Kd.R_mono za.out (fun _ hk => ⟨hk.1.1.2, ⟨hk.1.2, ⟨hk.2, ⟨hk.1.1.1.1, ⟨hk.1.1.1.2.1, hk.1.1.1.2.2⟩⟩⟩⟩⟩)), (by (with_reducible repeat (first | apply rA | apply rN | apply rD)); exact Kd.R_mono zb.out (fun _ hk => ⟨hk.1.1.2, ⟨hk.1.2, ⟨hk.2, ⟨hk.1.1.1.1, ⟨hk.1.1.1.2.1, hk.1.1.1.2.2⟩⟩⟩⟩⟩)), (pK ze.out), (pK zg.out), (pK zf.out), (pK z2.out), zaz.out, zaa.out, zl.out, zae.out, z7.out, zaf.out, z8.out, zag.out, (qB4 HB zh zi zj zaa)⟩)
        rintro ⟨zbi, zbc, za2, za3, z4⟩ zbl ⟨hS_, h0_, h1_, h2_, h3_, h4_, h5_, h6_, h7_, h8_, h9_, h10_, h11_, h12_, h13_, h14_, h15_, h16_, h17_, h18_, h19_⟩
        have n0_ : Aside0 (Kd.R (Kd.int .i64) 3 zbl w.heap.size (fun k_ => some k_ ≠ (za2 : Value).ownBlock ∧ some k_ ≠ (za3 : Value).ownBlock ∧ some k_ ≠ (.slice zw zo.length zu : Value).ownBlock ∧ some k_ ≠ (.slice zx zp.length zv : Value).ownBlock ∧ some k_ ≠ (.slice zq zm.length zr : Value).ownBlock ∧ some k_ ≠ (.slice zs zn.length zt : Value).ownBlock) zbc za5) := ⟨h0_⟩
        have n1_ : Aside0 (Kd.R (Kd.int .i64) 3 zbl w.heap.size (fun k_ => some k_ ≠ (zbc : Value).ownBlock ∧ some k_ ≠ (za3 : Value).ownBlock ∧ some k_ ≠ (.slice zw zo.length zu : Value).ownBlock ∧ some k_ ≠ (.slice zx zp.length zv : Value).ownBlock ∧ some k_ ≠ (.slice zq zm.length zr : Value).ownBlock ∧ some k_ ≠ (.slice zs zn.length zt : Value).ownBlock) za2 zbr) := ⟨h1_⟩
        have n2_ : Aside0 (Kd.R (Kd.int .i64) 3 zbl w.heap.size (fun k_ => some k_ ≠ (zbc : Value).ownBlock ∧ some k_ ≠ (za2 : Value).ownBlock ∧ some k_ ≠ (.slice zw zo.length zu : Value).ownBlock ∧ some k_ ≠ (.slice zx zp.length zv : Value).ownBlock ∧ some k_ ≠ (.slice zq zm.length zr : Value).ownBlock ∧ some k_ ≠ (.slice zs zn.length zt : Value).ownBlock) za3 zbs) := ⟨h2_⟩
        have n3_ : Aside0 (Kd.R (Kd.int .i64) 3 zbl w.heap.size (fun k_ => some k_ ≠ (zbc : Value).ownBlock ∧ some k_ ≠ (za2 : Value).ownBlock ∧ some k_ ≠ (za3 : Value).ownBlock ∧ some k_ ≠ (.slice zx zp.length zv : Value).ownBlock ∧ some k_ ≠ (.slice zq zm.length zr : Value).ownBlock ∧ some k_ ≠ (.slice zs zn.length zt : Value).ownBlock) (.slice zw zo.length zu) zo) := ⟨h3_⟩
        have n4_ : Aside0 (Kd.R (Kd.int .i64) 3 zbl w.heap.size (fun k_ => some k_ ≠ (zbc : Value).ownBlock ∧ some k_ ≠ (za2 : Value).ownBlock ∧ some k_ ≠ (za3 : Value).ownBlock ∧ some k_ ≠ (.slice zw zo.length zu : Value).ownBlock ∧ some k_ ≠ (.slice zq zm.length zr : Value).ownBlock ∧ some k_ ≠ (.slice zs zn.length zt : Value).ownBlock) (.slice zx zp.length zv) zp) := ⟨h4_⟩
        have n5_ : Aside0 (Kd.R (Kd.int .i64) 3 zbl w.heap.size (fun k_ => some k_ ≠ (zbc : Value).ownBlock ∧ some k_ ≠ (za2 : Value).ownBlock ∧ some k_ ≠ (za3 : Value).ownBlock ∧ some k_ ≠ (.slice zw zo.length zu : Value).ownBlock ∧ some k_ ≠ (.slice zx zp.length zv : Value).ownBlock ∧ some k_ ≠ (.slice zs zn.length zt : Value).ownBlock) (.slice zq zm.length zr) zm) := ⟨h5_⟩
        have n6_ : Aside0 (Kd.R (Kd.int .i64) 3 zbl w.heap.size (fun k_ => some k_ ≠ (zbc : Value).ownBlock ∧ some k_ ≠ (za2 : Value).ownBlock ∧ some k_ ≠ (za3 : Value).ownBlock ∧ some k_ ≠ (.slice zw zo.length zu : Value).ownBlock ∧ some k_ ≠ (.slice zx zp.length zv : Value).ownBlock ∧ some k_ ≠ (.slice zq zm.length zr : Value).ownBlock) (.slice zs zn.length zt) zn) := ⟨h6_⟩
        have n7_ : Aside0 (zbl.heap[zy]? = some (.cells #[.int .i64 a0_0, .slice A0_1 l0_1.length c0_1, .slice A0_2 l0_2.length c0_2] 24 (0, 0))) := ⟨h7_⟩
        have n8_ : Aside0 (zbl.heap[zai]? = some (.cells #[.int .i64 zba, .slice zw zo.length zu, .slice zx zp.length zv] 24 (0, 0))) := ⟨h8_⟩
        have n9_ : Aside0 (zbl.heap[zah]? = some (.cells #[.int .i64 za8, .slice zq zm.length zr, .slice zs zn.length zt] 24 (0, 0))) := ⟨h9_⟩
        have n10_ : Aside0 (zbl.heap[z4]? = some (.cells #[.int .i64 0, .slice none 0 0, .slice none 0 0] 24 (0, 0))) := ⟨h10_⟩
        have n11_ : Aside0 (w.heap.size ≤ z4) := ⟨h11_⟩
        have n12_ : Aside0 (w.heap.size ≤ z4) := ⟨h12_⟩
        have n13_ : Aside0 (zy ≠ z4) := ⟨h13_⟩
        have n14_ : Aside0 (z4 ≠ zy) := ⟨h14_⟩
        have n15_ : Aside0 (zai ≠ z4) := ⟨h15_⟩
        have n16_ : Aside0 (z4 ≠ zai) := ⟨h16_⟩
        have n17_ : Aside0 (zah ≠ z4) := ⟨h17_⟩
        have n18_ : Aside0 (z4 ≠ zah) := ⟨h18_⟩
        have n19_ : Aside0 (Below w.heap.size w zbl) := ⟨h19_⟩
        clear zc
        clear zd
        clear za
        clear zb
        clear ze
        clear zg
        clear zf
        clear HB
        clear h0_ h1_ h2_ h3_ h4_ h5_ h6_ h7_ h8_ h9_ h10_ h11_ h12_ h13_ h14_ h15_ h16_ h17_ h18_ h19_
        have z0 := n0_
        have zap := n1_
        have zaq := n2_
        have zc := n3_
        have zd := n4_
        have za := n5_
        have zb := n6_
        have ze := n7_
        have zg := n8_
        have zf := n9_
        have z2 := n10_
        have zaz := n11_
        have zaa := n12_
        have zl := n13_
        have zae := n14_
        have z7 := n15_
        have zaf := n16_
        have z8 := n17_
        have zag := n18_
        have HB := n19_
        clear n0_ n1_ n2_ n3_ n4_ n5_ n6_ n7_ n8_ n9_ n10_ n11_ n12_ n13_ n14_ n15_ n16_ n17_ n18_ n19_
        have hHeld : zbl.cell? ⟨zy, 0, none⟩ = some (.int .i64 a0_0) ∧ zbl.cell? ⟨zy, 1, none⟩ = some (.slice A0_1 l0_1.length c0_1) ∧ zbl.cell? ⟨zy, 2, none⟩ = some (.slice A0_2 l0_2.length c0_2) := hS_
        obtain ⟨Ao125, co125, zea⟩ := Kd.R_slice zap.out
        (first | subst zea | (injection zea with f1_ f2_ f3_; have f4_ := f1_.symm; have f5_ := f3_.symm; clear f1_ f2_ f3_; subst f4_; subst f5_))
        obtain ⟨Ao127, co127, zeb⟩ := Kd.R_slice zaq.out
        (first | subst zeb | (injection zeb with f1_ f2_ f3_; have f4_ := f1_.symm; have f5_ := f3_.symm; clear f1_ f2_ f3_; subst f4_; subst f5_))
        refine norm_ (a' := ?_) ?_ ?_
        rotate_left
        ·simp only [putAll, Act.put, sP]
         rfl
        refine one_ (i := 10) (N := none) (bm 12 2047) rfl rfl (one_of HT_.out (by kernel_rfl)) (by decide) (fun K hK => ?_)
        have hs124 : zbl.cell? ⟨z4, 0, none⟩ = some (.int .i64 0) := (blk_cell z2.out 0).trans rfl
        have hfs124 := blk_frozen z2.out 0
        have hns124_0 := zl.out
        have hns124_1 := z7.out
        have hns124_2 := z8.out
        have hms124_0 := zae.out
        have hms124_1 := zaf.out
        have hms124_2 := zag.out
        have hs126 : zbl.cell? ⟨z4, 1, none⟩ = some (.slice none 0 0) := (blk_cell z2.out 1).trans rfl
        have hfs126 := blk_frozen z2.out 1
        have hns126_0 := zl.out
        have hns126_1 := z7.out
        have hns126_2 := z8.out
        have hms126_0 := zae.out
        have hms126_1 := zaf.out
        have hms126_2 := zag.out
        have hs128 : zbl.cell? ⟨z4, 2, none⟩ = some (.slice none 0 0) := (blk_cell z2.out 2).trans rfl
        have hfs128 := blk_frozen z2.out 2
        have hns128_0 := zl.out
        have hns128_1 := z7.out
        have hns128_2 := z8.out
        have hms128_0 := zae.out
        have hms128_1 := zaf.out
        have hms128_2 := zag.out
        refine skip_ (w1 := ?_) (by rfl) rfl ?_ ?_
        rotate_left
        ·go_simp
         rfl
        refine hK.out _ _ ⟨((cell_far (p := ⟨z4, _, none⟩) zl.out _).trans (((cell_far (p := ⟨z4, _, none⟩) zl.out _).trans (((cell_far (p := ⟨z4, _, none⟩) zl.out _).trans (hHeld.1)))))), ((cell_far (p := ⟨z4, _, none⟩) zl.out _).trans (((cell_far (p := ⟨z4, _, none⟩) zl.out _).trans (((cell_far (p := ⟨z4, _, none⟩) zl.out _).trans (hHeld.2.1)))))), ((cell_far (p := ⟨z4, _, none⟩) zl.out _).trans (((cell_far (p := ⟨z4, _, none⟩) zl.out _).trans (((cell_far (p := ⟨z4, _, none⟩) zl.out _).trans (hHeld.2.2))))))⟩ (fun hHeld => ?_)
        clear hK K
        refine pP (i := 11) (N := some 21) (bm 12 4095) rfl rfl HT_.out ?_
        refine done_ (done_of HT_.out (by kernel_rfl)) ?_
        try go_wp2_with (first | (go_at_call 26; (with_reducible refine (gradinelaw23_same.calls  zc6 _ A115.out).mono ?_); rintro e w129 ⟨rfl, hb⟩; replace zc := aM (Kd.R_below (by (with_reducible repeat (first | apply rA | apply rN | apply rD)); exact (F3 zc z2 (fun _ h_ => h_.1))) hb); replace zd := aM (Kd.R_below (by (with_reducible repeat (first | apply rA | apply rN | apply rD)); exact (F3 zd z2 (fun _ h_ => h_.1))) hb); replace za := aM (Kd.R_below (by (with_reducible repeat (first | apply rA | apply rN | apply rD)); exact (F3 za z2 (fun _ h_ => h_.1))) hb); replace zb := aM (Kd.R_below (by (with_reducible repeat (first | apply rA | apply rN | apply rD)); exact (F3 zb z2 (fun _ h_ => h_.1))) hb); replace z0 := aM (Kd.R_below (by (with_reducible repeat (first | apply rA | apply rN | apply rD)); exact (F3 z0 z2 (fun _ h_ => h_.1))) hb); replace zap := aM (Kd.R_below (by (with_reducible repeat (first | apply rA | apply rN | apply rD)); exact (F3 zap z2 (fun _ h_ => h_.1))) hb); replace zaq := aM (Kd.R_below (by (with_reducible repeat (first | apply rA | apply rN | apply rD)); exact (F3 zaq z2 (fun _ h_ => h_.1))) hb); replace ze := aM (blk_below (g := zy) (o := .cells #[.int .i64 a0_0, .slice A0_1 l0_1.length c0_1, .slice A0_2 l0_2.length c0_2] 24 (0, 0)) (by refine B3 zl ?_; exact ze.out) hb); replace zg := aM (blk_below (g := zai) (o := .cells #[.int .i64 zba, .slice zw zo.length zu, .slice zx zp.length zv] 24 (0, 0)) (by refine B3 z7 ?_; exact zg.out) hb); replace zf := aM (blk_below (g := zah) (o := .cells #[.int .i64 za8, .slice zq zm.length zr, .slice zs zn.length zt] 24 (0, 0)) (by refine B3 z8 ?_; exact zf.out) hb); replace z2 := aM (blk_below (g := z4) (o := .cells #[.int .i64 zbq, .slice Ao125 zbr.length co125, .slice Ao127 zbs.length co127] 24 (0, 0)) (by exact P3 z2) hb); replace HB := bS (qB4 HB zh zi zj zaa) hb; (try clear hb); (try clear hk); (try clear hi)))
        go_ret
        replace hv_ := hv_.out
        exact ⟨pE, qB4 HB zh zi zj zaa⟩
       rw [if_pos c92] at H
       have c92b0 : (zbh == 0) = true := beq_iff_eq.mpr c92
       have c92b1 : (zbh != 0) = false := bne_eq_false_iff_eq.mpr c92
       clear c92
       replace H := Option.bind_eq_some_iff.mp H
       obtain ⟨zc4, ze7, H⟩ := H
       try dsimp only at H
       have A93 := aM ze7
       clear ze7
       by_cases c94 : zc4 = true
       ·subst c94
        rw [if_pos rfl] at H
        exact absurd H (by simp)
       replace c94 := Bool.eq_false_iff.mpr c94
       subst c94
       rw [if_neg (show ¬ (false = true) by decide)] at H
       replace H := Option.bind_eq_some_iff.mp H
       obtain ⟨zc5, ze8, H⟩ := H
       try dsimp only at H
       have A95 := aM ze8
       clear ze8
       have hv_ := aM (Option.some.inj H)
       clear H
       try go_wp2
       replace zc := aM (Kd.R_drew zc.out)
       replace zd := aM (Kd.R_drew zd.out)
       replace za := aM (Kd.R_drew za.out)
       replace zb := aM (Kd.R_drew zb.out)
       replace ze := aM (blk_drew ze.out)
       replace zg := aM (blk_drew zg.out)
       replace zf := aM (blk_drew zf.out)
       replace HB := aM (below_drew1 HB.out)
       refine start_ (n := 12) (S := fun w' => w'.cell? ⟨zy, 0, none⟩ = some (.int .i64 a0_0) ∧ w'.cell? ⟨zy, 1, none⟩ = some (.slice A0_1 l0_1.length c0_1) ∧ w'.cell? ⟨zy, 2, none⟩ = some (.slice A0_2 l0_2.length c0_2)) (ds := []) (bm 12 0) (by kernel_rfl) rfl rfl (h3 ze) (fun hHeld => ?_); refine with_tabW gradinelaw23_CellsSame.tab14 gradinelaw23_CellsSame.bits14 (fun HT_ HW_ => ?_)
       generalize wc.drew = w96 at zc zd za zb ze zg zf HB hHeld ⊢
       refine pP (i := 2) (N := some 130) (bm 12 4) rfl rfl HT_.out ?_
       refine pT (i := 0) (N := some 128) (bm 12 5) rfl rfl HT_.out HW_.out hHeld (by rintro w' ⟨s0, s1, s2⟩; go_simp; with_reducible rfl) ?_
       refine pT (i := 3) (N := some 131) (bm 12 13) rfl rfl HT_.out HW_.out hHeld (by rintro w' ⟨s0, s1, s2⟩; go_simp; with_reducible rfl) ?_
       refine join_ (σ := Value × Value × Value × Value × Nat) 2 (bm 12 1023) (fun s_ => [(129, s_.1), (132, s_.2.1), (133, .tuple #[.agg #[.int .i64 zbq, s_.2.2.1, s_.2.2.2.1], .int .i64 zbh]), (20, .pointer (some ⟨s_.2.2.2.2, 0, none⟩)), (127, .tuple #[.agg #[.int .i64 zbq, s_.2.2.1, s_.2.2.2.1], .int .i64 zbh]), (134, .agg #[.int .i64 zbq, s_.2.2.1, s_.2.2.2.1]), (135, .int .i64 zbh)]) (fun s_ w' => (w'.cell? ⟨zy, 0, none⟩ = some (.int .i64 a0_0) ∧ w'.cell? ⟨zy, 1, none⟩ = some (.slice A0_1 l0_1.length c0_1) ∧ w'.cell? ⟨zy, 2, none⟩ = some (.slice A0_2 l0_2.length c0_2)) ∧ (Kd.R (Kd.int .i64) 3 w' w.heap.size (fun k_ => some k_ ≠ (s_.2.2.1 : Value).ownBlock ∧ some k_ ≠ (s_.2.2.2.1 : Value).ownBlock ∧ some k_ ≠ (.slice zw zo.length zu : Value).ownBlock ∧ some k_ ≠ (.slice zx zp.length zv : Value).ownBlock ∧ some k_ ≠ (.slice zq zm.length zr : Value).ownBlock ∧ some k_ ≠ (.slice zs zn.length zt : Value).ownBlock) s_.2.1 za5) ∧ (Kd.R (Kd.int .i64) 3 w' w.heap.size (fun k_ => some k_ ≠ (s_.2.1 : Value).ownBlock ∧ some k_ ≠ (s_.2.2.2.1 : Value).ownBlock ∧ some k_ ≠ (.slice zw zo.length zu : Value).ownBlock ∧ some k_ ≠ (.slice zx zp.length zv : Value).ownBlock ∧ some k_ ≠ (.slice zq zm.length zr : Value).ownBlock ∧ some k_ ≠ (.slice zs zn.length zt : Value).ownBlock) s_.2.2.1 zbr) ∧ (Kd.R (Kd.int .i64) 3 w' w.heap.size (fun k_ => some k_ ≠ (s_.2.1 : Value).ownBlock ∧ some k_ ≠ (s_.2.2.1 : Value).ownBlock ∧ some k_ ≠ (.slice zw zo.length zu : Value).ownBlock ∧ some k_ ≠ (.slice zx zp.length zv : Value).ownBlock ∧ some k_ ≠ (.slice zq zm.length zr : Value).ownBlock ∧ some k_ ≠ (.slice zs zn.length zt : Value).ownBlock) s_.2.2.2.1 zbs) ∧ (Kd.R (Kd.int .i64) 3 w' w.heap.size (fun k_ => some k_ ≠ (s_.2.1 : Value).ownBlock ∧ some k_ ≠ (s_.2.2.1 : Value).ownBlock ∧ some k_ ≠ (s_.2.2.2.1 : Value).ownBlock ∧ some k_ ≠ (.slice zx zp.length zv : Value).ownBlock ∧ some k_ ≠ (.slice zq zm.length zr : Value).ownBlock ∧ some k_ ≠ (.slice zs zn.length zt : Value).ownBlock) (.slice zw zo.length zu) zo) ∧ (Kd.R (Kd.int .i64) 3 w' w.heap.size (fun k_ => some k_ ≠ (s_.2.1 : Value).ownBlock ∧ some k_ ≠ (s_.2.2.1 : Value).ownBlock ∧ some k_ ≠ (s_.2.2.2.1 : Value).ownBlock ∧ some k_ ≠ (.slice zw zo.length zu : Value).ownBlock ∧ some k_ ≠ (.slice zq zm.length zr : Value).ownBlock ∧ some k_ ≠ (.slice zs zn.length zt : Value).ownBlock) (.slice zx zp.length zv) zp) ∧ (Kd.R (Kd.int .i64) 3 w' w.heap.size (fun k_ => some k_ ≠ (s_.2.1 : Value).ownBlock ∧ some k_ ≠ (s_.2.2.1 : Value).ownBlock ∧ some k_ ≠ (s_.2.2.2.1 : Value).ownBlock ∧ some k_ ≠ (.slice zw zo.length zu : Value).ownBlock ∧ some k_ ≠ (.slice zx zp.length zv : Value).ownBlock ∧ some k_ ≠ (.slice zs zn.length zt : Value).ownBlock) (.slice zq zm.length zr) zm) ∧ (Kd.R (Kd.int .i64) 3 w' w.heap.size (fun k_ => some k_ ≠ (s_.2.1 : Value).ownBlock ∧ some k_ ≠ (s_.2.2.1 : Value).ownBlock ∧ some k_ ≠ (s_.2.2.2.1 : Value).ownBlock ∧ some k_ ≠ (.slice zw zo.length zu : Value).ownBlock ∧ some k_ ≠ (.slice zx zp.length zv : Value).ownBlock ∧ some k_ ≠ (.slice zq zm.length zr : Value).ownBlock) (.slice zs zn.length zt) zn) ∧ (w'.heap[zy]? = some (.cells #[.int .i64 a0_0, .slice A0_1 l0_1.length c0_1, .slice A0_2 l0_2.length c0_2] 24 (0, 0))) ∧ (w'.heap[zai]? = some (.cells #[.int .i64 zba, .slice zw zo.length zu, .slice zx zp.length zv] 24 (0, 0))) ∧ (w'.heap[zah]? = some (.cells #[.int .i64 za8, .slice zq zm.length zr, .slice zs zn.length zt] 24 (0, 0))) ∧ (w'.heap[s_.2.2.2.2]? = some (.cells #[.int .i64 0, .slice none 0 0, .slice none 0 0] 24 (0, 0))) ∧ (w.heap.size ≤ s_.2.2.2.2) ∧ (w.heap.size ≤ s_.2.2.2.2) ∧ (zy ≠ s_.2.2.2.2) ∧ (s_.2.2.2.2 ≠ zy) ∧ (zai ≠ s_.2.2.2.2) ∧ (s_.2.2.2.2 ≠ zai) ∧ (zah ≠ s_.2.2.2.2) ∧ (s_.2.2.2.2 ≠ zah) ∧ (Below w.heap.size w w')) ?_ ?_
       rotate_left
       ·intro hCont
        refine two_ (i := 1) (j := 9) (Ni := some 129) (Nj := some 20) (bm 12 15) (bm 12 525) rfl rfl rfl rfl (two_of HT_.out (by kernel_rfl)) (by decide) (by decide) (fun K hK => ?_) (fun K hK => ?_)
        ·skip
         refine Kd.R_lit_step (Kd.int .i64) _ 3 ?hg (N := 129) ?hd (xs := ([2] : List Int)) (inner := [.int .i64 2]) (ok := fun _ => True) (okp := fun _ => True) ?hr ?hp (fun _ hk => hk) trivial (Below.refl _ _) (Nat.le_refl _) (by simp) ?_; (case hd => rfl); (case hg => rfl); (case hr => first | (go_simp; done) | (go_simp; rfl)); (case hp => exact (Reps.one (show Kd.M (Kd.int .i64) _ _ _ 2 [.int .i64 2] from rfl) (Reps.none _ _)))
         intro zbi w97 ho98 hb hg_ hnew_
         clear hg_ hnew_
         (first | rw [← zb8.out] at ho98 | (simp only [Int.reduceToNat] at ho98; rw [← zb8.out] at ho98))
         have zak := aM (Kd.R_lower (Kd.R_new' (Kd.R_new' (Kd.R_new' (Kd.R_new' ho98 (Kd.R_lt (pR zc.out))) (Kd.R_lt (pR zd.out))) (Kd.R_lt (pR za.out))) (Kd.R_lt (pR zb.out))) (below_size (qB3 HB zh zi zj)))
         replace zc := eR zc ho98 hb
         replace zd := eR zd ho98 hb
         replace za := eR za ho98 hb
         replace zb := eR zb ho98 hb
         replace ze := bK ze hb
         replace zg := bK zg hb
         replace zf := bK zf hb
         replace HB := bS (qB3 HB zh zi zj) hb
         clear hb ho98
         refine hK.out _ _ (h3 ze) (fun hHeld => ?_)
         clear hK K
         refine norm_ (a' := ?_) ?_ ?_
         rotate_left
         ·show Act.put _ (some 129) _ = _
          simp only [Act.put, sP, i64_w, i32_w]
          rfl
         refine two_ (i := 4) (j := 9) (Ni := some 132) (Nj := some 20) (bm 12 31) (bm 12 527) rfl rfl rfl rfl (two_of HT_.out (by kernel_rfl)) (by decide) (by decide) (fun K hK => ?_) (fun K hK => ?_)
         ·skip
          refine Kd.R_append_rows_step (Kd.int .i64) (w0 := w) w.heap.size (by rfl) (.tmp 129) (.tmp 131) 22 3 (.int .i64 0) 8 rfl Try.underlying22 info3 rfl (by decide) (by omega) zbi zbw l0_1 _ _ _ (fun k_ => some k_ ≠ (.slice zw zo.length zu : Value).ownBlock ∧ some k_ ≠ (.slice zx zp.length zv : Value).ownBlock ∧ some k_ ≠ (.slice zq zm.length zr : Value).ownBlock ∧ some k_ ≠ (.slice zs zn.length zt : Value).ownBlock) (fun _ => False) rfl rfl ?aO ?aR (fun _ _ h => h) (fun _ h => h.elim) ?aF ?aB ?aS ?aL ?_
          (case aR => exact sC zal HB)
          (case aB => exact (qB3 HB zh zi zj))
          (case aF => exact (fun k_ hk => ⟨Kd.fresh' (Kd.R_lt (pR zc.out)) k_ hk, Kd.fresh' (Kd.R_lt (pR zd.out)) k_ hk, Kd.fresh' (Kd.R_lt (pR za.out)) k_ hk, Kd.fresh' (Kd.R_lt (pR zb.out)) k_ hk⟩))
          (case aO => exact (by (with_reducible repeat (first | apply rA | apply rN | apply rD)); exact Kd.R_mono zak.out (fun _ hk => ⟨hk.1.1.1.2, ⟨hk.1.1.2, ⟨hk.1.2, hk.2⟩⟩⟩)))
          (case aS => exact (below_size (qB3 HB zh zi zj)))
          (case aL => have := zco.out; omega)
          intro zbc w99 ho hb hg hat
          rw [← zcp.out] at ho
          replace zc := aM (Kd.R_after (ok := (fun k_ => some k_ ≠ (.slice zx zp.length zv : Value).ownBlock ∧ some k_ ≠ (.slice zq zm.length zr : Value).ownBlock ∧ some k_ ≠ (.slice zs zn.length zt : Value).ownBlock)) (pR zc.out) hg hat)
          replace zd := aM (Kd.R_after (ok := (fun k_ => some k_ ≠ (.slice zw zo.length zu : Value).ownBlock ∧ some k_ ≠ (.slice zq zm.length zr : Value).ownBlock ∧ some k_ ≠ (.slice zs zn.length zt : Value).ownBlock)) (pR zd.out) hg hat)
          replace za := aM (Kd.R_after (ok := (fun k_ => some k_ ≠ (.slice zw zo.length zu : Value).ownBlock ∧ some k_ ≠ (.slice zx zp.length zv : Value).ownBlock ∧ some k_ ≠ (.slice zs zn.length zt : Value).ownBlock)) (pR za.out) hg hat)
          replace zb := aM (Kd.R_after (ok := (fun k_ => some k_ ≠ (.slice zw zo.length zu : Value).ownBlock ∧ some k_ ≠ (.slice zx zp.length zv : Value).ownBlock ∧ some k_ ≠ (.slice zq zm.length zr : Value).ownBlock)) (pR zb.out) hg hat)
          replace ze := aM (blk_grown (g := zy) (pK ze.out) hg (Kd.R_ne zak.out ze.out (by decide)))
          replace zg := aM (blk_grown (g := zai) (pK zg.out) hg (Kd.R_ne zak.out zg.out (by decide)))
          replace zf := aM (blk_grown (g := zah) (pK zf.out) hg (Kd.R_ne zak.out zf.out (by decide)))
          replace HB := aM (hb)
          have z0 := aM (ho)
          clear zak
          clear ho hb hg hat
          obtain ⟨zec, zed, zee⟩ := Kd.R_slice z0.out
          (first | subst zee | (injection zee with f1_ f2_ f3_; have f4_ := f1_.symm; have f5_ := f3_.symm; clear f1_ f2_ f3_; subst f4_; subst f5_))
          refine hK.out _ _ (h3 ze) (fun hHeld => ?_)
          clear hK K
          refine norm_ (a' := ?_) ?_ ?_
          rotate_left
          ·show Act.put _ (some 132) _ = _
           simp only [Act.put, sP, i64_w, i32_w]
           rfl
          refine two_ (i := 5) (j := 9) (Ni := some 133) (Nj := some 20) (bm 12 63) (bm 12 543) rfl rfl rfl rfl (two_of HT_.out (by kernel_rfl)) (by decide) (by decide) (fun K hK => ?_) (fun K hK => ?_)
          ·skip
           refine goes_ Try.func36 (by kernel_rfl) rfl #[.agg #[.int .i64 a0_0, .slice A0_1 l0_1.length c0_1, .slice A0_2 l0_2.length c0_2], .slice zec za5.length zed] (by rfl) rfl rfl pA ?_
           with_reducible refine (view_Expand.calls zb0 a0_0 _ _ l0_1 _ _ l0_2 _ _ za5 zbq zbr zbs zbh _ ?s1 ?s2 ?s3 ?s4 ?s5 ?s6 A90.out).mono ?_
           (case s1 => exact sC zal HB)
           (case s2 => exact zav.out)
           (case s3 => exact sC zaw HB)
           (case s4 => exact zax.out)
           (case s5 => exact sR z0)
           (case s6 => exact sL z0)
           rintro e w101 ⟨za2, za3, rfl, ho0, ho1, hb⟩
           refine ⟨_, rfl, ?_⟩
           have zap := aM (Kd.R_lower (Kd.R_new' (Kd.R_new' (Kd.R_new' (Kd.R_new' (Kd.R_new' ho0 (Kd.R_lt (pR zc.out))) (Kd.R_lt (pR zd.out))) (Kd.R_lt (pR za.out))) (Kd.R_lt (pR zb.out))) (Kd.R_lt (pR z0.out))) (below_size (qB3 HB zh zi zj)))
           have zaq := aM (Kd.R_lower (Kd.R_new' (Kd.R_new' (Kd.R_new' (Kd.R_new' (Kd.R_new' ho1 (Kd.R_lt (pR zc.out))) (Kd.R_lt (pR zd.out))) (Kd.R_lt (pR za.out))) (Kd.R_lt (pR zb.out))) (Kd.R_lt (pR z0.out))) (below_size (qB3 HB zh zi zj)))
           replace zc := eR2 zc ho0 ho1 hb
           replace zd := eR2 zd ho0 ho1 hb
           replace za := eR2 za ho0 ho1 hb
           replace zb := eR2 zb ho0 ho1 hb
           replace z0 := eR2 z0 ho0 ho1 hb
           replace ze := bK ze hb
           replace zg := bK zg hb
           replace zf := bK zf hb
           replace HB := bS (qB3 HB zh zi zj) hb
           (try clear hb)
           (try clear hk)
           (try clear ho0)
           (try clear ho1)
           refine hK.out _ _ (h3 ze) (fun hHeld => ?_)
           clear hK K
           refine norm_ (a' := ?_) ?_ ?_
           rotate_left
           ·show Act.put _ (some 133) _ = _
            simp only [Act.put, sP, i64_w, i32_w]
            rfl
           refine pP (i := 6) (N := some 127) (bm 12 127) rfl rfl HT_.out ?_
           refine pP (i := 7) (N := some 134) (bm 12 255) rfl rfl HT_.out ?_
           refine pP (i := 8) (N := some 135) (bm 12 511) rfl rfl HT_.out ?_
           refine one_ (i := 9) (N := some 20) (bm 12 1023) rfl rfl (one_of HT_.out (by kernel_rfl)) (by decide) (fun K hK => ?_)
           refine box_step ?hg (N := 20) ?hd (cs := #[.int .i64 0, .slice none 0 0, .slice none 0 0]) (t := 24) ?hr ?_; (case hd => rfl); (case hg => rfl); (case hr => first | (go_simp; done) | (go_simp; rfl))
           intro z4 hg zen hbox hb
           replace zc := bR zc hb
           replace zd := bR zd hb
           replace za := bR za hb
           replace zb := bR zb hb
           replace z0 := bR z0 hb
           replace zap := bR zap hb
           replace zaq := bR zaq hb
           have z2 := aM (hbox)
           have zaz := gE (w := w) hg (qB3 HB zh zi zj)
           have zaa := zaz
           replace HB := bS (qB3 HB zh zi zj) hb
           have zl := nL hg ze
           have zae := nG hg ze
           replace ze := bK ze hb
           have z7 := nL hg zg
           have zaf := nG hg zg
           replace zg := bK zg hb
           have z8 := nL hg zf
           have zag := nG hg zf
           replace zf := bK zf hb
           clear hb hbox hg
           refine hK.out _ _ (h3 ze) (fun hHeld => ?_)
           clear hK K
           refine norm_ (a' := ?_) ?_ ?_
           rotate_left
           ·show Act.put _ (some 20) _ = _
            simp only [Act.put, sP, i64_w, i32_w]
            rfl
           exact norm_ (by simp only [putAll, Act.put, sP]) (hCont (zbi, .slice zec za5.length zed, za2, za3, z4) _ ⟨hHeld, (by (with_reducible repeat (first | apply rA | apply rN | apply rD)); exact Kd.R_mono z0.out (fun _ hk => ⟨hk.1.2, ⟨hk.2, ⟨hk.1.1.1, ⟨hk.1.1.2.1, ⟨hk.1.1.2.2.1, hk.1.1.2.2.2⟩⟩⟩⟩⟩)), (by (with_reducible repeat (first | apply rA | apply rN | apply rD)); exact Kd.R_mono zap.out (fun _ hk => ⟨hk.2, ⟨hk.1.1.1.1.1, ⟨hk.1.1.1.1.2, ⟨hk.1.1.1.2, ⟨hk.1.1.2, hk.1.2⟩⟩⟩⟩⟩)), (by (with_reducible repeat (first | apply rA | apply rN | apply rD)); exact Kd.R_mono zaq.out (fun _ hk => ⟨hk.2, ⟨hk.1.1.1.1.1, ⟨hk.1.1.1.1.2, ⟨hk.1.1.1.2, ⟨hk.1.1.2, hk.1.2⟩⟩⟩⟩⟩)), (by (with_reducible repeat (first | apply rA | apply rN | apply rD)); exact Kd.R_mono zc.out (fun _ hk => ⟨hk.1.1.2, ⟨hk.1.2, ⟨hk.2, ⟨hk.1.1.1.1, ⟨hk.1.1.1.2.1, hk.1.1.1.2.2⟩⟩⟩⟩⟩)), (by (with_reducible repeat (first | apply rA | apply rN | apply rD)); exact Kd.R_mono zd.out (fun _ hk => ⟨hk.1.1.2, ⟨hk.1.2, ⟨hk.2, ⟨hk.1.1.1.1, ⟨hk.1.1.1.2.1, hk.1.1.1.2.2⟩⟩⟩⟩⟩)), (by (with_reducible repeat (first | apply rA | apply rN | apply rD)); exact Kd.R_mono za.out (fun _ hk => ⟨hk.1.1.2, ⟨hk.1.2, ⟨hk.2, ⟨hk.1.1.1.1, ⟨hk.1.1.1.2.1, hk.1.1.1.2.2⟩⟩⟩⟩⟩)), (by (with_reducible repeat (first | apply rA | apply rN | apply rD)); exact Kd.R_mono zb.out (fun _ hk => ⟨hk.1.1.2, ⟨hk.1.2, ⟨hk.2, ⟨hk.1.1.1.1, ⟨hk.1.1.1.2.1, hk.1.1.1.2.2⟩⟩⟩⟩⟩)), (pK ze.out), (pK zg.out), (pK zf.out), (pK z2.out), zaz.out, zaa.out, zl.out, zae.out, z7.out, zaf.out, z8.out, zag.out, (qB4 HB zh zi zj zaa)⟩)
          ·skip
           refine box_step ?hg (N := 20) ?hd (cs := #[.int .i64 0, .slice none 0 0, .slice none 0 0]) (t := 24) ?hr ?_; (case hd => rfl); (case hg => rfl); (case hr => first | (go_simp; done) | (go_simp; rfl))
           intro z4 hg ze9 hbox hb
           replace zc := bR zc hb
           replace zd := bR zd hb
           replace za := bR za hb
           replace zb := bR zb hb
           replace z0 := bR z0 hb
           have z2 := aM (hbox)
           have zaz := gE (w := w) hg (qB3 HB zh zi zj)
           have zaa := zaz
           replace HB := bS (qB3 HB zh zi zj) hb
           have zl := nL hg ze
           have zae := nG hg ze
           replace ze := bK ze hb
           have z7 := nL hg zg
           have zaf := nG hg zg
           replace zg := bK zg hb
           have z8 := nL hg zf
           have zag := nG hg zf
           replace zf := bK zf hb
           clear hb hbox hg
           obtain ⟨zcc, zcd, zce⟩ := Kd.R_slice z0.out
           (first | subst zce | (injection zce with f1_ f2_ f3_; have f4_ := f1_.symm; have f5_ := f3_.symm; clear f1_ f2_ f3_; subst f4_; subst f5_))
           refine hK.out _ _ (h3 ze) (fun hHeld => ?_)
           clear hK K
           refine norm_ (a' := ?_) ?_ ?_
           rotate_left
           ·show Act.put _ (some 20) _ = _
            simp only [Act.put, sP, i64_w, i32_w]
            rfl
           refine one_ (i := 5) (N := some 133) (bm 12 575) rfl rfl (one_of HT_.out (by kernel_rfl)) (by decide) (fun K hK => ?_)
           refine goes_ Try.func36 (by kernel_rfl) rfl #[.agg #[.int .i64 a0_0, .slice A0_1 l0_1.length c0_1, .slice A0_2 l0_2.length c0_2], .slice zcc za5.length zcd] (by rfl) rfl rfl pA ?_
           with_reducible refine (view_Expand.calls zb0 a0_0 _ _ l0_1 _ _ l0_2 _ _ za5 zbq zbr zbs zbh _ ?s1 ?s2 ?s3 ?s4 ?s5 ?s6 A90.out).mono ?_
           (case s1 => exact sC zal HB)
           (case s2 => exact zav.out)
           (case s3 => exact sC zaw HB)
           (case s4 => exact zax.out)
           (case s5 => exact sR z0)
           (case s6 => exact sL z0)
           rintro e zen ⟨za2, za3, rfl, ho0, ho1, hb⟩
           refine ⟨_, rfl, ?_⟩
           have zap := aM (Kd.R_lower (Kd.R_new' (Kd.R_new' (Kd.R_new' (Kd.R_new' (Kd.R_new' ho0 (Kd.R_lt (pR zc.out))) (Kd.R_lt (pR zd.out))) (Kd.R_lt (pR za.out))) (Kd.R_lt (pR zb.out))) (Kd.R_lt (pR z0.out))) (below_size (qB4 HB zh zi zj zaa)))
           have zaq := aM (Kd.R_lower (Kd.R_new' (Kd.R_new' (Kd.R_new' (Kd.R_new' (Kd.R_new' ho1 (Kd.R_lt (pR zc.out))) (Kd.R_lt (pR zd.out))) (Kd.R_lt (pR za.out))) (Kd.R_lt (pR zb.out))) (Kd.R_lt (pR z0.out))) (below_size (qB4 HB zh zi zj zaa)))
           replace zc := eR2 zc ho0 ho1 hb
           replace zd := eR2 zd ho0 ho1 hb
           replace za := eR2 za ho0 ho1 hb
           replace zb := eR2 zb ho0 ho1 hb
           replace z0 := eR2 z0 ho0 ho1 hb
           replace ze := bK ze hb
           replace zg := bK zg hb
           replace zf := bK zf hb
           replace z2 := bK z2 hb
           replace HB := bS (qB4 HB zh zi zj zaa) hb
           (try clear hb)
           (try clear ho0)
           (try clear ho1)
           refine hK.out _ _ (h3 ze) (fun hHeld => ?_)
           clear hK K
           refine norm_ (a' := ?_) ?_ ?_
           rotate_left
           ·show Act.put _ (some 133) _ = _
            simp only [Act.put, sP, i64_w, i32_w]
            rfl
           refine pP (i := 6) (N := some 127) (bm 12 639) rfl rfl HT_.out ?_
           refine pP (i := 7) (N := some 134) (bm 12 767) rfl rfl HT_.out ?_
           refine pP (i := 8) (N := some 135) (bm 12 1023) rfl rfl HT_.out ?_
           exact norm_ (by simp only [putAll, Act.put, sP]) (hCont (zbi, .slice zcc za5.length zcd, za2, za3, z4) _ ⟨hHeld, (by (with_reducible repeat (first | apply rA | apply rN | apply rD)); exact Kd.R_mono z0.out (fun _ hk => ⟨hk.1.2, ⟨hk.2, ⟨hk.1.1.1, ⟨hk.1.1.2.1, ⟨hk.1.1.2.2.1, hk.1.1.2.2.2⟩⟩⟩⟩⟩)), (by (with_reducible repeat (first | apply rA | apply rN | apply rD)); exact Kd.R_mono zap.out (fun _ hk => ⟨hk.2, ⟨hk.1.1.1.1.1, ⟨hk.1.1.1.1.2, ⟨hk.1.1.1.2, ⟨hk.1.1.2, hk.1.2⟩⟩⟩⟩⟩)), (by (with_reducible repeat (first | apply rA | apply rN | apply rD)); exact Kd.R_mono zaq.out (fun _ hk => ⟨hk.2, ⟨hk.1.1.1.1.1, ⟨hk.1.1.1.1.2, ⟨hk.1.1.1.2, ⟨hk.1.1.2, hk.1.2⟩⟩⟩⟩⟩)), (by (with_reducible repeat (first | apply rA | apply rN | apply rD)); exact Kd.R_mono zc.out (fun _ hk => ⟨hk.1.1.2, ⟨hk.1.2, ⟨hk.2, ⟨hk.1.1.1.1, ⟨hk.1.1.1.2.1, hk.1.1.1.2.2⟩⟩⟩⟩⟩)), (by (with_reducible repeat (first | apply rA | apply rN | apply rD)); exact Kd.R_mono zd.out (fun _ hk => ⟨hk.1.1.2, ⟨hk.1.2, ⟨hk.2, ⟨hk.1.1.1.1, ⟨hk.1.1.1.2.1, hk.1.1.1.2.2⟩⟩⟩⟩⟩)), (by (with_reducible repeat (first | apply rA | apply rN | apply rD)); exact Kd.R_mono za.out (fun _ hk => ⟨hk.1.1.2, ⟨hk.1.2, ⟨hk.2, ⟨hk.1.1.1.1, ⟨hk.1.1.1.2.1, hk.1.1.1.2.2⟩⟩⟩⟩⟩)), (by (with_reducible repeat (first | apply rA | apply rN | apply rD)); exact Kd.R_mono zb.out (fun _ hk => ⟨hk.1.1.2, ⟨hk.1.2, ⟨hk.2, ⟨hk.1.1.1.1, ⟨hk.1.1.1.2.1, hk.1.1.1.2.2⟩⟩⟩⟩⟩)), (pK ze.out), (pK zg.out), (pK zf.out), (pK z2.out), zaz.out, zaa.out, zl.out, zae.out, z7.out, zaf.out, z8.out, zag.out, (qB4 HB zh zi zj zaa)⟩)
         ·skip
          refine box_step ?hg (N := 20) ?hd (cs := #[.int .i64 0, .slice none 0 0, .slice none 0 0]) (t := 24) ?hr ?_; (case hd => rfl); (case hg => rfl); (case hr => first | (go_simp; done) | (go_simp; rfl))
          intro z4 hg w99 hbox hb
          replace zc := bR zc hb
          replace zd := bR zd hb
          replace za := bR za hb
          replace zb := bR zb hb
          replace zak := bR zak hb
          have z2 := aM (hbox)
          have zaz := gE (w := w) hg (qB3 HB zh zi zj)
          have zaa := zaz
          replace HB := bS (qB3 HB zh zi zj) hb
          have zl := nL hg ze
          have zae := nG hg ze
          replace ze := bK ze hb
          have z7 := nL hg zg
          have zaf := nG hg zg
          replace zg := bK zg hb
          have z8 := nL hg zf
          have zag := nG hg zf
          replace zf := bK zf hb
          clear hb hbox hg
          refine hK.out _ _ (h3 ze) (fun hHeld => ?_)
          clear hK K
          refine norm_ (a' := ?_) ?_ ?_
          rotate_left
          ·show Act.put _ (some 20) _ = _
           simp only [Act.put, sP, i64_w, i32_w]
           rfl
          refine one_ (i := 4) (N := some 132) (bm 12 543) rfl rfl (one_of HT_.out (by kernel_rfl)) (by decide) (fun K hK => ?_)
          refine Kd.R_append_rows_step (Kd.int .i64) (w0 := w) w.heap.size (by rfl) (.tmp 129) (.tmp 131) 22 3 (.int .i64 0) 8 rfl Try.underlying22 info3 rfl (by decide) (by omega) zbi zbw l0_1 _ _ _ (fun k_ => some k_ ≠ (.slice zw zo.length zu : Value).ownBlock ∧ some k_ ≠ (.slice zx zp.length zv : Value).ownBlock ∧ some k_ ≠ (.slice zq zm.length zr : Value).ownBlock ∧ some k_ ≠ (.slice zs zn.length zt : Value).ownBlock) (fun _ => False) rfl rfl ?aO ?aR (fun _ _ h => h) (fun _ h => h.elim) ?aF ?aB ?aS ?aL ?_
          (case aR => exact sC zal HB)
          (case aB => exact (qB4 HB zh zi zj zaa))
          (case aF => exact (fun k_ hk => ⟨Kd.fresh' (Kd.R_lt (pR zc.out)) k_ hk, Kd.fresh' (Kd.R_lt (pR zd.out)) k_ hk, Kd.fresh' (Kd.R_lt (pR za.out)) k_ hk, Kd.fresh' (Kd.R_lt (pR zb.out)) k_ hk⟩))
          (case aO => exact (by (with_reducible repeat (first | apply rA | apply rN | apply rD)); exact Kd.R_mono zak.out (fun _ hk => ⟨hk.1.1.1.2, ⟨hk.1.1.2, ⟨hk.1.2, hk.2⟩⟩⟩)))
          (case aS => exact (below_size (qB4 HB zh zi zj zaa)))
          (case aL => have := zco.out; omega)
          intro zbc ze9 ho hb hg hat
          rw [← zcp.out] at ho
          replace zc := aM (Kd.R_after (ok := (fun k_ => some k_ ≠ (.slice zx zp.length zv : Value).ownBlock ∧ some k_ ≠ (.slice zq zm.length zr : Value).ownBlock ∧ some k_ ≠ (.slice zs zn.length zt : Value).ownBlock)) (pR zc.out) hg hat)
          replace zd := aM (Kd.R_after (ok := (fun k_ => some k_ ≠ (.slice zw zo.length zu : Value).ownBlock ∧ some k_ ≠ (.slice zq zm.length zr : Value).ownBlock ∧ some k_ ≠ (.slice zs zn.length zt : Value).ownBlock)) (pR zd.out) hg hat)
          replace za := aM (Kd.R_after (ok := (fun k_ => some k_ ≠ (.slice zw zo.length zu : Value).ownBlock ∧ some k_ ≠ (.slice zx zp.length zv : Value).ownBlock ∧ some k_ ≠ (.slice zs zn.length zt : Value).ownBlock)) (pR za.out) hg hat)
          replace zb := aM (Kd.R_after (ok := (fun k_ => some k_ ≠ (.slice zw zo.length zu : Value).ownBlock ∧ some k_ ≠ (.slice zx zp.length zv : Value).ownBlock ∧ some k_ ≠ (.slice zq zm.length zr : Value).ownBlock)) (pR zb.out) hg hat)
          replace ze := aM (blk_grown (g := zy) (pK ze.out) hg (Kd.R_ne zak.out ze.out (by decide)))
          replace zg := aM (blk_grown (g := zai) (pK zg.out) hg (Kd.R_ne zak.out zg.out (by decide)))
          replace zf := aM (blk_grown (g := zah) (pK zf.out) hg (Kd.R_ne zak.out zf.out (by decide)))
          replace z2 := aM (blk_grown (g := z4) (pK z2.out) hg (Kd.R_ne zak.out z2.out (by decide)))
          replace HB := aM (hb)
          have z0 := aM (ho)
          clear zak
          clear ho hb hg hat
          obtain ⟨zcc, zcd, zce⟩ := Kd.R_slice z0.out
          (first | subst zce | (injection zce with f1_ f2_ f3_; have f4_ := f1_.symm; have f5_ := f3_.symm; clear f1_ f2_ f3_; subst f4_; subst f5_))
          refine hK.out _ _ (h3 ze) (fun hHeld => ?_)
          clear hK K
          refine norm_ (a' := ?_) ?_ ?_
          rotate_left
          ·show Act.put _ (some 132) _ = _
           simp only [Act.put, sP, i64_w, i32_w]
           rfl
          refine one_ (i := 5) (N := some 133) (bm 12 575) rfl rfl (one_of HT_.out (by kernel_rfl)) (by decide) (fun K hK => ?_)
          refine goes_ Try.func36 (by kernel_rfl) rfl #[.agg #[.int .i64 a0_0, .slice A0_1 l0_1.length c0_1, .slice A0_2 l0_2.length c0_2], .slice zcc za5.length zcd] (by rfl) rfl rfl pA ?_
          with_reducible refine (view_Expand.calls zb0 a0_0 _ _ l0_1 _ _ l0_2 _ _ za5 zbq zbr zbs zbh _ ?s1 ?s2 ?s3 ?s4 ?s5 ?s6 A90.out).mono ?_
          (case s1 => exact sC zal HB)
          (case s2 => exact zav.out)
          (case s3 => exact sC zaw HB)
          (case s4 => exact zax.out)
          (case s5 => exact sR z0)
          (case s6 => exact sL z0)
          rintro e zen ⟨za2, za3, rfl, ho0, ho1, hb⟩
          refine ⟨_, rfl, ?_⟩
          have zap := aM (Kd.R_lower (Kd.R_new' (Kd.R_new' (Kd.R_new' (Kd.R_new' (Kd.R_new' ho0 (Kd.R_lt (pR zc.out))) (Kd.R_lt (pR zd.out))) (Kd.R_lt (pR za.out))) (Kd.R_lt (pR zb.out))) (Kd.R_lt (pR z0.out))) (below_size (qB4 HB zh zi zj zaa)))
          have zaq := aM (Kd.R_lower (Kd.R_new' (Kd.R_new' (Kd.R_new' (Kd.R_new' (Kd.R_new' ho1 (Kd.R_lt (pR zc.out))) (Kd.R_lt (pR zd.out))) (Kd.R_lt (pR za.out))) (Kd.R_lt (pR zb.out))) (Kd.R_lt (pR z0.out))) (below_size (qB4 HB zh zi zj zaa)))
          replace zc := eR2 zc ho0 ho1 hb
          replace zd := eR2 zd ho0 ho1 hb
          replace za := eR2 za ho0 ho1 hb
          replace zb := eR2 zb ho0 ho1 hb
          replace z0 := eR2 z0 ho0 ho1 hb
          replace ze := bK ze hb
          replace zg := bK zg hb
          replace zf := bK zf hb
          replace z2 := bK z2 hb
          replace HB := bS (qB4 HB zh zi zj zaa) hb
          (try clear hb)
          (try clear hk)
          (try clear ho0)
          (try clear ho1)
          refine hK.out _ _ (h3 ze) (fun hHeld => ?_)
          clear hK K
          refine norm_ (a' := ?_) ?_ ?_
          rotate_left
          ·show Act.put _ (some 133) _ = _
           simp only [Act.put, sP, i64_w, i32_w]
           rfl
          refine pP (i := 6) (N := some 127) (bm 12 639) rfl rfl HT_.out ?_
          refine pP (i := 7) (N := some 134) (bm 12 767) rfl rfl HT_.out ?_
          refine pP (i := 8) (N := some 135) (bm 12 1023) rfl rfl HT_.out ?_
          exact norm_ (by simp only [putAll, Act.put, sP]) (hCont (zbi, .slice zcc za5.length zcd, za2, za3, z4) _ ⟨hHeld, (by (with_reducible repeat (first | apply rA | apply rN | apply rD)); exact Kd.R_mono z0.out (fun _ hk => ⟨hk.1.2, ⟨hk.2, ⟨hk.1.1.1, ⟨hk.1.1.2.1, ⟨hk.1.1.2.2.1, hk.1.1.2.2.2⟩⟩⟩⟩⟩)), (by (with_reducible repeat (first | apply rA | apply rN | apply rD)); exact Kd.R_mono zap.out (fun _ hk => ⟨hk.2, ⟨hk.1.1.1.1.1, ⟨hk.1.1.1.1.2, ⟨hk.1.1.1.2, ⟨hk.1.1.2, hk.1.2⟩⟩⟩⟩⟩)), (by (with_reducible repeat (first | apply rA | apply rN | apply rD)); exact Kd.R_mono zaq.out (fun _ hk => ⟨hk.2, ⟨hk.1.1.1.1.1, ⟨hk.1.1.1.1.2, ⟨hk.1.1.1.2, ⟨hk.1.1.2, hk.1.2⟩⟩⟩⟩⟩)), (by (with_reducible repeat (first | apply rA | apply rN | apply rD)); exact Kd.R_mono zc.out (fun _ hk => ⟨hk.1.1.2, ⟨hk.1.2, ⟨hk.2, ⟨hk.1.1.1.1, ⟨hk.1.1.1.2.1, hk.1.1.1.2.2⟩⟩⟩⟩⟩)), (by (with_reducible repeat (first | apply rA | apply rN | apply rD)); exact Kd.R_mono zd.out (fun _ hk => ⟨hk.1.1.2, ⟨hk.1.2, ⟨hk.2, ⟨hk.1.1.1.1, ⟨hk.1.1.1.2.1, hk.1.1.1.2.2⟩⟩⟩⟩⟩)), (by (with_reducible repeat (first | apply rA | apply rN | apply rD)); exact Kd.R_mono za.out (fun _ hk => ⟨hk.1.1.2, ⟨hk.1.2, ⟨hk.2, ⟨hk.1.1.1.1, ⟨hk.1.1.1.2.1, hk.1.1.1.2.2⟩⟩⟩⟩⟩)), (by (with_reducible repeat (first | apply rA | apply rN | apply rD)); exact Kd.R_mono zb.out (fun _ hk => ⟨hk.1.1.2, ⟨hk.1.2, ⟨hk.2, ⟨hk.1.1.1.1, ⟨hk.1.1.1.2.1, hk.1.1.1.2.2⟩⟩⟩⟩⟩)), (pK ze.out), (pK zg.out), (pK zf.out), (pK z2.out), zaz.out, zaa.out, zl.out, zae.out, z7.out, zaf.out, z8.out, zag.out, (qB4 HB zh zi zj zaa)⟩)
        ·skip
         refine box_step ?hg (N := 20) ?hd (cs := #[.int .i64 0, .slice none 0 0, .slice none 0 0]) (t := 24) ?hr ?_; (case hd => rfl); (case hg => rfl); (case hr => first | (go_simp; done) | (go_simp; rfl))
         intro z4 hg w97 hbox hb
         replace zc := bR zc hb
         replace zd := bR zd hb
         replace za := bR za hb
         replace zb := bR zb hb
         have z2 := aM (hbox)
         have zaz := gE (w := w) hg (qB3 HB zh zi zj)
         have zaa := zaz
         replace HB := bS (qB3 HB zh zi zj) hb
         have zl := nL hg ze
         have zae := nG hg ze
         replace ze := bK ze hb
         have z7 := nL hg zg
         have zaf := nG hg zg
         replace zg := bK zg hb
         have z8 := nL hg zf
         have zag := nG hg zf
         replace zf := bK zf hb
         clear hb hbox hg
         refine hK.out _ _ (h3 ze) (fun hHeld => ?_)
         clear hK K
         refine norm_ (a' := ?_) ?_ ?_
         rotate_left
         ·show Act.put _ (some 20) _ = _
          simp only [Act.put, sP, i64_w, i32_w]
          rfl
         refine one_ (i := 1) (N := some 129) (bm 12 527) rfl rfl (one_of HT_.out (by kernel_rfl)) (by decide) (fun K hK => ?_)
         refine Kd.R_lit_step (Kd.int .i64) _ 3 ?hg (N := 129) ?hd (xs := ([2] : List Int)) (inner := [.int .i64 2]) (ok := fun _ => True) (okp := fun _ => True) ?hr ?hp (fun _ hk => hk) trivial (Below.refl _ _) (Nat.le_refl _) (by simp) ?_; (case hd => rfl); (case hg => rfl); (case hr => first | (go_simp; done) | (go_simp; rfl)); (case hp => exact (Reps.one (show Kd.M (Kd.int .i64) _ _ _ 2 [.int .i64 2] from rfl) (Reps.none _ _)))
         intro zbi w98 ho99 hb hg_ hnew_
         clear hg_ hnew_
         (first | rw [← zb8.out] at ho99 | (simp only [Int.reduceToNat] at ho99; rw [← zb8.out] at ho99))
         have zak := aM (Kd.R_lower (Kd.R_new' (Kd.R_new' (Kd.R_new' (Kd.R_new' ho99 (Kd.R_lt (pR zc.out))) (Kd.R_lt (pR zd.out))) (Kd.R_lt (pR za.out))) (Kd.R_lt (pR zb.out))) (below_size (qB4 HB zh zi zj zaa)))
         replace zc := eR zc ho99 hb
         replace zd := eR zd ho99 hb
         replace za := eR za ho99 hb
         replace zb := eR zb ho99 hb
         replace ze := bK ze hb
         replace zg := bK zg hb
         replace zf := bK zf hb
         replace z2 := bK z2 hb
         replace HB := bS (qB4 HB zh zi zj zaa) hb
         clear hb ho99
         refine hK.out _ _ (h3 ze) (fun hHeld => ?_)
         clear hK K
         refine norm_ (a' := ?_) ?_ ?_
         rotate_left
         ·show Act.put _ (some 129) _ = _
          simp only [Act.put, sP, i64_w, i32_w]
          rfl
         refine one_ (i := 4) (N := some 132) (bm 12 543) rfl rfl (one_of HT_.out (by kernel_rfl)) (by decide) (fun K hK => ?_)
         refine Kd.R_append_rows_step (Kd.int .i64) (w0 := w) w.heap.size (by rfl) (.tmp 129) (.tmp 131) 22 3 (.int .i64 0) 8 rfl Try.underlying22 info3 rfl (by decide) (by omega) zbi zbw l0_1 _ _ _ (fun k_ => some k_ ≠ (.slice zw zo.length zu : Value).ownBlock ∧ some k_ ≠ (.slice zx zp.length zv : Value).ownBlock ∧ some k_ ≠ (.slice zq zm.length zr : Value).ownBlock ∧ some k_ ≠ (.slice zs zn.length zt : Value).ownBlock) (fun _ => False) rfl rfl ?aO ?aR (fun _ _ h => h) (fun _ h => h.elim) ?aF ?aB ?aS ?aL ?_
         (case aR => exact sC zal HB)
         (case aB => exact (qB4 HB zh zi zj zaa))
         (case aF => exact (fun k_ hk => ⟨Kd.fresh' (Kd.R_lt (pR zc.out)) k_ hk, Kd.fresh' (Kd.R_lt (pR zd.out)) k_ hk, Kd.fresh' (Kd.R_lt (pR za.out)) k_ hk, Kd.fresh' (Kd.R_lt (pR zb.out)) k_ hk⟩))
         (case aO => exact (by (with_reducible repeat (first | apply rA | apply rN | apply rD)); exact Kd.R_mono zak.out (fun _ hk => ⟨hk.1.1.1.2, ⟨hk.1.1.2, ⟨hk.1.2, hk.2⟩⟩⟩)))
         (case aS => exact (below_size (qB4 HB zh zi zj zaa)))
         (case aL => have := zco.out; omega)
         intro zbc ze9 ho hb hg hat
         rw [← zcp.out] at ho
         replace zc := aM (Kd.R_after (ok := (fun k_ => some k_ ≠ (.slice zx zp.length zv : Value).ownBlock ∧ some k_ ≠ (.slice zq zm.length zr : Value).ownBlock ∧ some k_ ≠ (.slice zs zn.length zt : Value).ownBlock)) (pR zc.out) hg hat)
         replace zd := aM (Kd.R_after (ok := (fun k_ => some k_ ≠ (.slice zw zo.length zu : Value).ownBlock ∧ some k_ ≠ (.slice zq zm.length zr : Value).ownBlock ∧ some k_ ≠ (.slice zs zn.length zt : Value).ownBlock)) (pR zd.out) hg hat)
         replace za := aM (Kd.R_after (ok := (fun k_ => some k_ ≠ (.slice zw zo.length zu : Value).ownBlock ∧ some k_ ≠ (.slice zx zp.length zv : Value).ownBlock ∧ some k_ ≠ (.slice zs zn.length zt : Value).ownBlock)) (pR za.out) hg hat)
         replace zb := aM (Kd.R_after (ok := (fun k_ => some k_ ≠ (.slice zw zo.length zu : Value).ownBlock ∧ some k_ ≠ (.slice zx zp.length zv : Value).ownBlock ∧ some k_ ≠ (.slice zq zm.length zr : Value).ownBlock)) (pR zb.out) hg hat)
         replace ze := aM (blk_grown (g := zy) (pK ze.out) hg (Kd.R_ne zak.out ze.out (by decide)))
         replace zg := aM (blk_grown (g := zai) (pK zg.out) hg (Kd.R_ne zak.out zg.out (by decide)))
         replace zf := aM (blk_grown (g := zah) (pK zf.out) hg (Kd.R_ne zak.out zf.out (by decide)))
         replace z2 := aM (blk_grown (g := z4) (pK z2.out) hg (Kd.R_ne zak.out z2.out (by decide)))
         replace HB := aM (hb)
         have z0 := aM (ho)
         clear zak
         clear ho hb hg hat
         obtain ⟨zcc, zcd, zce⟩ := Kd.R_slice z0.out
         (first | subst zce | (injection zce with f1_ f2_ f3_; have f4_ := f1_.symm; have f5_ := f3_.symm; clear f1_ f2_ f3_; subst f4_; subst f5_))
         refine hK.out _ _ (h3 ze) (fun hHeld => ?_)
         clear hK K
         refine norm_ (a' := ?_) ?_ ?_
         rotate_left
         ·show Act.put _ (some 132) _ = _
          simp only [Act.put, sP, i64_w, i32_w]
          rfl
         refine one_ (i := 5) (N := some 133) (bm 12 575) rfl rfl (one_of HT_.out (by kernel_rfl)) (by decide) (fun K hK => ?_)
         refine goes_ Try.func36 (by kernel_rfl) rfl #[.agg #[.int .i64 a0_0, .slice A0_1 l0_1.length c0_1, .slice A0_2 l0_2.length c0_2], .slice zcc za5.length zcd] (by rfl) rfl rfl pA ?_
         with_reducible refine (view_Expand.calls zb0 a0_0 _ _ l0_1 _ _ l0_2 _ _ za5 zbq zbr zbs zbh _ ?s1 ?s2 ?s3 ?s4 ?s5 ?s6 A90.out).mono ?_
         (case s1 => exact sC zal HB)
         (case s2 => exact zav.out)
         (case s3 => exact sC zaw HB)
         (case s4 => exact zax.out)
         (case s5 => exact sR z0)
         (case s6 => exact sL z0)
         rintro e zen ⟨za2, za3, rfl, ho0, ho1, hb⟩
         refine ⟨_, rfl, ?_⟩
         have zap := aM (Kd.R_lower (Kd.R_new' (Kd.R_new' (Kd.R_new' (Kd.R_new' (Kd.R_new' ho0 (Kd.R_lt (pR zc.out))) (Kd.R_lt (pR zd.out))) (Kd.R_lt (pR za.out))) (Kd.R_lt (pR zb.out))) (Kd.R_lt (pR z0.out))) (below_size (qB4 HB zh zi zj zaa)))
         have zaq := aM (Kd.R_lower (Kd.R_new' (Kd.R_new' (Kd.R_new' (Kd.R_new' (Kd.R_new' ho1 (Kd.R_lt (pR zc.out))) (Kd.R_lt (pR zd.out))) (Kd.R_lt (pR za.out))) (Kd.R_lt (pR zb.out))) (Kd.R_lt (pR z0.out))) (below_size (qB4 HB zh zi zj zaa)))
         replace zc := eR2 zc ho0 ho1 hb
         replace zd := eR2 zd ho0 ho1 hb
         replace za := eR2 za ho0 ho1 hb
         replace zb := eR2 zb ho0 ho1 hb
         replace z0 := eR2 z0 ho0 ho1 hb
         replace ze := bK ze hb
         replace zg := bK zg hb
         replace zf := bK zf hb
         replace z2 := bK z2 hb
         replace HB := bS (qB4 HB zh zi zj zaa) hb
         (try clear hb)
         (try clear hk)
         (try clear ho0)
         (try clear ho1)
         refine hK.out _ _ (h3 ze) (fun hHeld => ?_)
         clear hK K
         refine norm_ (a' := ?_) ?_ ?_
         rotate_left
         ·show Act.put _ (some 133) _ = _
          simp only [Act.put, sP, i64_w, i32_w]
          rfl
         refine pP (i := 6) (N := some 127) (bm 12 639) rfl rfl HT_.out ?_
         refine pP (i := 7) (N := some 134) (bm 12 767) rfl rfl HT_.out ?_
         refine pP (i := 8) (N := some 135) (bm 12 1023) rfl rfl HT_.out ?_
         exact norm_ (by simp only [putAll, Act.put, sP]) (hCont (zbi, .slice zcc za5.length zcd, za2, za3, z4) _ ⟨hHeld, (by (with_reducible repeat (first | apply rA | apply rN | apply rD)); exact Kd.R_mono z0.out (fun _ hk => ⟨hk.1.2, ⟨hk.2, ⟨hk.1.1.1, ⟨hk.1.1.2.1, ⟨hk.1.1.2.2.1, hk.1.1.2.2.2⟩⟩⟩⟩⟩)), (by (with_reducible repeat (first | apply rA | apply rN | apply rD)); exact Kd.R_mono zap.out (fun _ hk => ⟨hk.2, ⟨hk.1.1.1.1.1, ⟨hk.1.1.1.1.2, ⟨hk.1.1.1.2, ⟨hk.1.1.2, hk.1.2⟩⟩⟩⟩⟩)), (by (with_reducible repeat (first | apply rA | apply rN | apply rD)); exact Kd.R_mono zaq.out (fun _ hk => ⟨hk.2, ⟨hk.1.1.1.1.1, ⟨hk.1.1.1.1.2, ⟨hk.1.1.1.2, ⟨hk.1.1.2, hk.1.2⟩⟩⟩⟩⟩)), (by (with_reducible repeat (first | apply rA | apply rN | apply rD)); exact Kd.R_mono zc.out (fun _ hk => ⟨hk.1.1.2, ⟨hk.1.2, ⟨hk.2, ⟨hk.1.1.1.1, ⟨hk.1.1.1.2.1, hk.1.1.1.2.2⟩⟩⟩⟩⟩)), (by (with_reducible repeat (first | apply rA | apply rN | apply rD)); exact Kd.R_mono zd.out (fun _ hk => ⟨hk.1.1.2, ⟨hk.1.2, ⟨hk.2, ⟨hk.1.1.1.1, ⟨hk.1.1.1.2.1, hk.1.1.1.2.2⟩⟩⟩⟩⟩)), (by (with_reducible repeat (first | apply rA | apply rN | apply rD)); exact Kd.R_mono za.out (fun _ hk => ⟨hk.1.1.2, ⟨hk.1.2, ⟨hk.2, ⟨hk.1.1.1.1, ⟨hk.1.1.1.2.1, hk.1.1.1.2.2⟩⟩⟩⟩⟩)), (by (with_reducible repeat (first | apply rA | apply rN | apply rD)); exact Kd.R_mono zb.out (fun _ hk => ⟨hk.1.1.2, ⟨hk.1.2, ⟨hk.2, ⟨hk.1.1.1.1, ⟨hk.1.1.1.2.1, hk.1.1.1.2.2⟩⟩⟩⟩⟩)), (pK ze.out), (pK zg.out), (pK zf.out), (pK z2.out), zaz.out, zaa.out, zl.out, zae.out, z7.out, zaf.out, z8.out, zag.out, (qB4 HB zh zi zj zaa)⟩)
       rintro ⟨zbi, zbc, za2, za3, z4⟩ zbm ⟨hS_, h0_, h1_, h2_, h3_, h4_, h5_, h6_, h7_, h8_, h9_, h10_, h11_, h12_, h13_, h14_, h15_, h16_, h17_, h18_, h19_⟩
       have n0_ : Aside0 (Kd.R (Kd.int .i64) 3 zbm w.heap.size (fun k_ => some k_ ≠ (za2 : Value).ownBlock ∧ some k_ ≠ (za3 : Value).ownBlock ∧ some k_ ≠ (.slice zw zo.length zu : Value).ownBlock ∧ some k_ ≠ (.slice zx zp.length zv : Value).ownBlock ∧ some k_ ≠ (.slice zq zm.length zr : Value).ownBlock ∧ some k_ ≠ (.slice zs zn.length zt : Value).ownBlock) zbc za5) := ⟨h0_⟩
       have n1_ : Aside0 (Kd.R (Kd.int .i64) 3 zbm w.heap.size (fun k_ => some k_ ≠ (zbc : Value).ownBlock ∧ some k_ ≠ (za3 : Value).ownBlock ∧ some k_ ≠ (.slice zw zo.length zu : Value).ownBlock ∧ some k_ ≠ (.slice zx zp.length zv : Value).ownBlock ∧ some k_ ≠ (.slice zq zm.length zr : Value).ownBlock ∧ some k_ ≠ (.slice zs zn.length zt : Value).ownBlock) za2 zbr) := ⟨h1_⟩
       have n2_ : Aside0 (Kd.R (Kd.int .i64) 3 zbm w.heap.size (fun k_ => some k_ ≠ (zbc : Value).ownBlock ∧ some k_ ≠ (za2 : Value).ownBlock ∧ some k_ ≠ (.slice zw zo.length zu : Value).ownBlock ∧ some k_ ≠ (.slice zx zp.length zv : Value).ownBlock ∧ some k_ ≠ (.slice zq zm.length zr : Value).ownBlock ∧ some k_ ≠ (.slice zs zn.length zt : Value).ownBlock) za3 zbs) := ⟨h2_⟩
       have n3_ : Aside0 (Kd.R (Kd.int .i64) 3 zbm w.heap.size (fun k_ => some k_ ≠ (zbc : Value).ownBlock ∧ some k_ ≠ (za2 : Value).ownBlock ∧ some k_ ≠ (za3 : Value).ownBlock ∧ some k_ ≠ (.slice zx zp.length zv : Value).ownBlock ∧ some k_ ≠ (.slice zq zm.length zr : Value).ownBlock ∧ some k_ ≠ (.slice zs zn.length zt : Value).ownBlock) (.slice zw zo.length zu) zo) := ⟨h3_⟩
       have n4_ : Aside0 (Kd.R (Kd.int .i64) 3 zbm w.heap.size (fun k_ => some k_ ≠ (zbc : Value).ownBlock ∧ some k_ ≠ (za2 : Value).ownBlock ∧ some k_ ≠ (za3 : Value).ownBlock ∧ some k_ ≠ (.slice zw zo.length zu : Value).ownBlock ∧ some k_ ≠ (.slice zq zm.length zr : Value).ownBlock ∧ some k_ ≠ (.slice zs zn.length zt : Value).ownBlock) (.slice zx zp.length zv) zp) := ⟨h4_⟩
       have n5_ : Aside0 (Kd.R (Kd.int .i64) 3 zbm w.heap.size (fun k_ => some k_ ≠ (zbc : Value).ownBlock ∧ some k_ ≠ (za2 : Value).ownBlock ∧ some k_ ≠ (za3 : Value).ownBlock ∧ some k_ ≠ (.slice zw zo.length zu : Value).ownBlock ∧ some k_ ≠ (.slice zx zp.length zv : Value).ownBlock ∧ some k_ ≠ (.slice zs zn.length zt : Value).ownBlock) (.slice zq zm.length zr) zm) := ⟨h5_⟩
       have n6_ : Aside0 (Kd.R (Kd.int .i64) 3 zbm w.heap.size (fun k_ => some k_ ≠ (zbc : Value).ownBlock ∧ some k_ ≠ (za2 : Value).ownBlock ∧ some k_ ≠ (za3 : Value).ownBlock ∧ some k_ ≠ (.slice zw zo.length zu : Value).ownBlock ∧ some k_ ≠ (.slice zx zp.length zv : Value).ownBlock ∧ some k_ ≠ (.slice zq zm.length zr : Value).ownBlock) (.slice zs zn.length zt) zn) := ⟨h6_⟩
       have n7_ : Aside0 (zbm.heap[zy]? = some (.cells #[.int .i64 a0_0, .slice A0_1 l0_1.length c0_1, .slice A0_2 l0_2.length c0_2] 24 (0, 0))) := ⟨h7_⟩
       have n8_ : Aside0 (zbm.heap[zai]? = some (.cells #[.int .i64 zba, .slice zw zo.length zu, .slice zx zp.length zv] 24 (0, 0))) := ⟨h8_⟩
       have n9_ : Aside0 (zbm.heap[zah]? = some (.cells #[.int .i64 za8, .slice zq zm.length zr, .slice zs zn.length zt] 24 (0, 0))) := ⟨h9_⟩
       have n10_ : Aside0 (zbm.heap[z4]? = some (.cells #[.int .i64 0, .slice none 0 0, .slice none 0 0] 24 (0, 0))) := ⟨h10_⟩
       have n11_ : Aside0 (w.heap.size ≤ z4) := ⟨h11_⟩
       have n12_ : Aside0 (w.heap.size ≤ z4) := ⟨h12_⟩
       have n13_ : Aside0 (zy ≠ z4) := ⟨h13_⟩
       have n14_ : Aside0 (z4 ≠ zy) := ⟨h14_⟩
       have n15_ : Aside0 (zai ≠ z4) := ⟨h15_⟩
       have n16_ : Aside0 (z4 ≠ zai) := ⟨h16_⟩
       have n17_ : Aside0 (zah ≠ z4) := ⟨h17_⟩
       have n18_ : Aside0 (z4 ≠ zah) := ⟨h18_⟩
       have n19_ : Aside0 (Below w.heap.size w zbm) := ⟨h19_⟩
       clear zc
       clear zd
       clear za
       clear zb
       clear ze
       clear zg
       clear zf
       clear HB
       clear h0_ h1_ h2_ h3_ h4_ h5_ h6_ h7_ h8_ h9_ h10_ h11_ h12_ h13_ h14_ h15_ h16_ h17_ h18_ h19_
       have z0 := n0_
       have zap := n1_
       have zaq := n2_
       have zc := n3_
       have zd := n4_
       have za := n5_
       have zb := n6_
       have ze := n7_
       have zg := n8_
       have zf := n9_
       have z2 := n10_
       have zaz := n11_
       have zaa := n12_
       have zl := n13_
       have zae := n14_
       have z7 := n15_
       have zaf := n16_
       have z8 := n17_
       have zag := n18_
       have HB := n19_
       clear n0_ n1_ n2_ n3_ n4_ n5_ n6_ n7_ n8_ n9_ n10_ n11_ n12_ n13_ n14_ n15_ n16_ n17_ n18_ n19_
       have hHeld : zbm.cell? ⟨zy, 0, none⟩ = some (.int .i64 a0_0) ∧ zbm.cell? ⟨zy, 1, none⟩ = some (.slice A0_1 l0_1.length c0_1) ∧ zbm.cell? ⟨zy, 2, none⟩ = some (.slice A0_2 l0_2.length c0_2) := hS_
       obtain ⟨zef, zdm, zeg⟩ := Kd.R_slice zap.out
       (first | subst zeg | (injection zeg with f1_ f2_ f3_; have f4_ := f1_.symm; have f5_ := f3_.symm; clear f1_ f2_ f3_; subst f4_; subst f5_))
       obtain ⟨zeh, zdn, zei⟩ := Kd.R_slice zaq.out
       (first | subst zei | (injection zei with f1_ f2_ f3_; have f4_ := f1_.symm; have f5_ := f3_.symm; clear f1_ f2_ f3_; subst f4_; subst f5_))
       refine norm_ (a' := ?_) ?_ ?_
       rotate_left
       ·simp only [putAll, Act.put, sP]
        rfl
       refine one_ (i := 10) (N := none) (bm 12 2047) rfl rfl (one_of HT_.out (by kernel_rfl)) (by decide) (fun K hK => ?_)
       have hs104 : zbm.cell? ⟨z4, 0, none⟩ = some (.int .i64 0) := (blk_cell z2.out 0).trans rfl
       have hfs104 := blk_frozen z2.out 0
       have hns104_0 := zl.out
       have hns104_1 := z7.out
       have hns104_2 := z8.out
       have hms104_0 := zae.out
       have hms104_1 := zaf.out
       have hms104_2 := zag.out
       have hs106 : zbm.cell? ⟨z4, 1, none⟩ = some (.slice none 0 0) := (blk_cell z2.out 1).trans rfl
       have hfs106 := blk_frozen z2.out 1
       have hns106_0 := zl.out
       have hns106_1 := z7.out
       have hns106_2 := z8.out
       have hms106_0 := zae.out
       have hms106_1 := zaf.out
       have hms106_2 := zag.out
       have hs108 : zbm.cell? ⟨z4, 2, none⟩ = some (.slice none 0 0) := (blk_cell z2.out 2).trans rfl
       have hfs108 := blk_frozen z2.out 2
       have hns108_0 := zl.out
       have hns108_1 := z7.out
       have hns108_2 := z8.out
       have hms108_0 := zae.out
       have hms108_1 := zaf.out
       have hms108_2 := zag.out
       refine skip_ (w1 := ?_) (by rfl) rfl ?_ ?_
       rotate_left
       ·go_simp
        rfl
       refine hK.out _ _ ⟨((cell_far (p := ⟨z4, _, none⟩) zl.out _).trans (((cell_far (p := ⟨z4, _, none⟩) zl.out _).trans (((cell_far (p := ⟨z4, _, none⟩) zl.out _).trans (hHeld.1)))))), ((cell_far (p := ⟨z4, _, none⟩) zl.out _).trans (((cell_far (p := ⟨z4, _, none⟩) zl.out _).trans (((cell_far (p := ⟨z4, _, none⟩) zl.out _).trans (hHeld.2.1)))))), ((cell_far (p := ⟨z4, _, none⟩) zl.out _).trans (((cell_far (p := ⟨z4, _, none⟩) zl.out _).trans (((cell_far (p := ⟨z4, _, none⟩) zl.out _).trans (hHeld.2.2))))))⟩ (fun hHeld => ?_)
       clear hK K
       refine pP (i := 11) (N := some 21) (bm 12 4095) rfl rfl HT_.out ?_
       refine done_ (done_of HT_.out (by kernel_rfl)) ?_
       have hnb109 := zae.out
       have hnc109 := zl.out
       have hnb110 := zaf.out
       have hnc110 := z7.out
       have hnb111 := zag.out
       have hnc111 := z8.out
       obtain ⟨hcz112_0, hcz112_1, hcz112_2, hfz112_0, hfz112_1, hfz112_2⟩ := blk3 z2.out
       try go_wp2_with (first | (go_at_call 30; (with_reducible refine (cells_Once.calls zb0 zbq _ _ zbr _ _ zbs false _ ?s1 ?s2 ?s3 ?s4 A93.out).mono ?_); (case s1 => refine (Kd.R_reads' (e := 3) (base := w.heap.size) (ok := fun k_ => (some k_ ≠ (zbc : Value).ownBlock ∧ (some k_ ≠ (.slice zeh zbs.length zdn : Value).ownBlock ∧ (some k_ ≠ (.slice zw zo.length zu : Value).ownBlock ∧ (some k_ ≠ (.slice zx zp.length zv : Value).ownBlock ∧ (some k_ ≠ (.slice zq zm.length zr : Value).ownBlock ∧ some k_ ≠ (.slice zs zn.length zt : Value).ownBlock)))))) (n := zbr.length) (c := zdm) ?_).2.2; exact (by (with_reducible repeat (first | apply rA | apply rN | apply rD)); exact (F3 zap z2 (fun _ h_ => h_.1)))); (case s2 => exact sL zap); (case s3 => refine (Kd.R_reads' (e := 3) (base := w.heap.size) (ok := fun k_ => (some k_ ≠ (zbc : Value).ownBlock ∧ (some k_ ≠ (.slice zef zbr.length zdm : Value).ownBlock ∧ (some k_ ≠ (.slice zw zo.length zu : Value).ownBlock ∧ (some k_ ≠ (.slice zx zp.length zv : Value).ownBlock ∧ (some k_ ≠ (.slice zq zm.length zr : Value).ownBlock ∧ some k_ ≠ (.slice zs zn.length zt : Value).ownBlock)))))) (n := zbs.length) (c := zdn) ?_).2.2; exact (by (with_reducible repeat (first | apply rA | apply rN | apply rD)); exact (F3 zaq z2 (fun _ h_ => h_.1)))); (case s4 => exact sL zaq); rintro e w113 ⟨rfl, hb⟩; replace zc := aM (Kd.R_below (by (with_reducible repeat (first | apply rA | apply rN | apply rD)); exact (F3 zc z2 (fun _ h_ => h_.1))) hb); replace zd := aM (Kd.R_below (by (with_reducible repeat (first | apply rA | apply rN | apply rD)); exact (F3 zd z2 (fun _ h_ => h_.1))) hb); replace za := aM (Kd.R_below (by (with_reducible repeat (first | apply rA | apply rN | apply rD)); exact (F3 za z2 (fun _ h_ => h_.1))) hb); replace zb := aM (Kd.R_below (by (with_reducible repeat (first | apply rA | apply rN | apply rD)); exact (F3 zb z2 (fun _ h_ => h_.1))) hb); replace z0 := aM (Kd.R_below (by (with_reducible repeat (first | apply rA | apply rN | apply rD)); exact (F3 z0 z2 (fun _ h_ => h_.1))) hb); replace zap := aM (Kd.R_below (by (with_reducible repeat (first | apply rA | apply rN | apply rD)); exact (F3 zap z2 (fun _ h_ => h_.1))) hb); replace zaq := aM (Kd.R_below (by (with_reducible repeat (first | apply rA | apply rN | apply rD)); exact (F3 zaq z2 (fun _ h_ => h_.1))) hb); replace ze := aM (blk_below (g := zy) (o := .cells #[.int .i64 a0_0, .slice A0_1 l0_1.length c0_1, .slice A0_2 l0_2.length c0_2] 24 (0, 0)) (by refine B3 zl ?_; exact ze.out) hb); replace zg := aM (blk_below (g := zai) (o := .cells #[.int .i64 zba, .slice zw zo.length zu, .slice zx zp.length zv] 24 (0, 0)) (by refine B3 z7 ?_; exact zg.out) hb); replace zf := aM (blk_below (g := zah) (o := .cells #[.int .i64 za8, .slice zq zm.length zr, .slice zs zn.length zt] 24 (0, 0)) (by refine B3 z8 ?_; exact zf.out) hb); replace z2 := aM (blk_below (g := z4) (o := .cells #[.int .i64 zbq, .slice zef zbr.length zdm, .slice zeh zbs.length zdn] 24 (0, 0)) (by exact P3 z2) hb); replace HB := bS (qB4 HB zh zi zj zaa) hb; (try clear hb); (try clear hk); (try clear hi)) | (go_at_call 26; (with_reducible refine (gradinelaw23_same.calls  zc5 _ A95.out).mono ?_); rintro e w114 ⟨rfl, hb⟩; replace zc := bR zc hb; replace zd := bR zd hb; replace za := bR za hb; replace zb := bR zb hb; replace z0 := bR z0 hb; replace zap := bR zap hb; replace zaq := bR zaq hb; replace ze := bK ze hb; replace zg := bK zg hb; replace zf := bK zf hb; replace z2 := bK z2 hb; replace HB := bS (qB4 HB zh zi zj zaa) hb; (try clear hb); (try clear hk); (try clear hi)))
       go_ret
       replace hv_ := hv_.out
       exact ⟨pE, qB4 HB zh zi zj zaa⟩
end Go.Proofs.Ytjbpekblcecneaa.Q
