-- By wip/gprint.py (this session's), out of the kit's print.py.
import Derived.Test.YthoilhonhjemmaaDoorQx0
import Derived.Test.YthoilhonhjemmaaDoorQxfLaw30Same
import Derived.Test.YthoilhonhjemmaaDoorQxfPrimArity
import Derived.Test.YthoilhonhjemmaaDoorQxfPrimChoices
import Derived.Test.YthoilhonhjemmaaDoorQxfPrimClass
import Derived.Test.YthoilhonhjemmaaDoorQxfPrimFlat
import Derived.Test.YthoilhonhjemmaaDoorQxfPrimInexact
import Derived.Test.YthoilhonhjemmaaDoorQxfPrimIs
import Derived.Test.YthoilhonhjemmaaDoorQxfPrimNeeds
import Derived.Test.YthoilhonhjemmaaDoorQxfPrimPicks
import Derived.Test.YthoilhonhjemmaaDoorQxfPrimWord
import Derived.Test.YthoilhonhjemmaaDoorQxfRef30Arity
import Derived.Test.YthoilhonhjemmaaDoorQxfRef30Choices
import Derived.Test.YthoilhonhjemmaaDoorQxfRef30Class
import Derived.Test.YthoilhonhjemmaaDoorQxfRef30Flat
import Derived.Test.YthoilhonhjemmaaDoorQxfRef30Inexact
import Derived.Test.YthoilhonhjemmaaDoorQxfRef30Needs
import Derived.Test.YthoilhonhjemmaaDoorQxfRef30Picks
import Derived.Test.YthoilhonhjemmaaDoorQxfRef30Word
namespace Go.Proofs.YthoilhonhjemmaaDoor.Q
open Go.RowKit Go.Proofs.YthoilhonhjemmaaDoorW.PrintWords Go.Proofs.YthoilhonhjemmaaDoorW.PrintLast Go.Proofs.YthoilhonhjemmaaDoorW.PrintMore
attribute [local go_sem] max2_int min2_int max_two min_two max_three min_three max_four min_four   -- for this text's walks alone
set_option linter.unusedVariables false
set_option linter.unusedSimpArgs false

/-! ### gradinelaw30_PrimTells: function 4 -/
mutual
def gradinelaw30_PrimTells.j0 : Nat → Int → Int → Bool → Int → Int → Int → Int → Int → Int → Int → Int → Bool → List Int → Option (Bool)
 | 0, _, _, _, _, _, _, _, _, _, _, _, _, _ => none
 | k + 1, x0, x2, x33, zs, x123001, x123002, x123003, x123004, x123005, x123006, x123007, x123008, x123009 => if x33 = true then (some false) else ((prim_Flat.f x0).bind fun zf => ((gradineref30_Flat.f x0).bind fun zg => (if (zf != zg) = true then (gradinelaw30_PrimTells.j1 k x0 true) else ((prim_Inexact.f x0).bind fun zh => ((gradineref30_Inexact.f x0).bind fun zi => (if (zh != zi) = true then (gradinelaw30_PrimTells.j1 k x0 true) else ((prim_Needs.f k x0 zs x123001 x123002 x123003 x123004 x123005 x123006 x123007 x123008 x123009 x2).bind fun zw => ((gradineref30_Needs.f k x0 zs x2).bind fun zx => (gradinelaw30_PrimTells.j1 k x0 (zw != zx))))))))))
def gradinelaw30_PrimTells.j1 : Nat → Int → Bool → Option (Bool)
 | 0, _, _ => none
 | k + 1, x0, x57 => if x57 = true then (some false) else ((prim_Choices.f k x0).bind fun zp => ((gradineref30_Choices.f x0).bind fun zq => (if zp = zq then ((prim_Picks.f k x0).bind fun zl => ((gradineref30_Picks.f x0).bind fun zm => (if (zl == zm) = true then ((gradinelaw30_same.f).bind fun zy => (some zy)) else (some false)))) else (some false))))
end
def gradinelaw30_PrimTells.f (k : Nat) (a0 : Int) (a1_0 : Int) (a1_1 : Int) (a1_2 : Int) (a1_3 : Int) (a1_4 : Int) (a1_5 : Int) (a1_6 : Int) (a1_7 : Int) (a1_8 : Bool) (l1_9 : List Int) (a2 : Int) : Option (Bool) := (prim_Is.f a0).bind fun zd => ((gradineref30_Class.f k a0).bind fun ze => (if (zd != (decide (ze > 0))) = true then (gradinelaw30_PrimTells.j0 k a0 a2 true a1_0 a1_1 a1_2 a1_3 a1_4 a1_5 a1_6 a1_7 a1_8 l1_9) else ((prim_Word.f a0).bind fun zj => ((gradineref30_Word.f k a0).bind fun zk => (if zj.toList = zk.toList then ((prim_Arity.f k a0).bind fun zn => ((gradineref30_Arity.f k a0).bind fun zo => (if zn = zo then ((prim_Class.f a0).bind fun zt => ((gradineref30_Class.f k a0).bind fun zu => (gradinelaw30_PrimTells.j0 k a0 a2 (zt != zu) a1_0 a1_1 a1_2 a1_3 a1_4 a1_5 a1_6 a1_7 a1_8 l1_9))) else (gradinelaw30_PrimTells.j0 k a0 a2 true a1_0 a1_1 a1_2 a1_3 a1_4 a1_5 a1_6 a1_7 a1_8 l1_9)))) else (gradinelaw30_PrimTells.j0 k a0 a2 true a1_0 a1_1 a1_2 a1_3 a1_4 a1_5 a1_6 a1_7 a1_8 l1_9))))))
def gradinelaw30_PrimTells.T3 : Bool × List (List Nat × List Nat) := (true, [([], []), ([0], [0]), ([], []), ([2, 1], [2]), ([1, 3], [1, 3]), ([4, 3], [4]), ([5], [5]), ([6, 5, 5], [5, 6]), ([5], [5]), ([8, 7, 5], [5, 8]), ([7, 9, 5], [5, 7, 9]), ([5, 10], [5, 10]), ([11, 9], [11]), ([12], [12]), ([12], [12]), ([12], [12]), ([13, 14, 15, 12, 12], [12, 13, 14, 15]), ([12], [12]), ([12], [12]), ([18, 12], [12, 18]), ([12], [12]), ([17, 19, 20, 16, 12], [12, 17, 19, 20]), ([16, 21, 12], [12, 16, 21]), ([12, 22], [12, 22])])
def gradinelaw30_PrimTells.B3 : List Nat := [0, 1, 0, 7, 15, 31, 63, 127, 63, 511, 1023, 2047, 4095, 8191, 8191, 8191, 65535, 8191, 8191, 270335, 8191, 2097151, 4194303, 8388607]
theorem gradinelaw30_PrimTells.tab3 : rtab .any (opsOf Tryd.f4 3) = gradinelaw30_PrimTells.T3 := by kernel_rfl
theorem gradinelaw30_PrimTells.bits3 : waitsOk gradinelaw30_PrimTells.T3.2 gradinelaw30_PrimTells.B3 = true := by kernel_rfl
set_option maxHeartbeats 8000000 in
set_option maxRecDepth 100000 in
theorem gradinelaw30_PrimTells.calls (k : Nat) (a0 : Int) (a1_0 : Int) (a1_1 : Int) (a1_2 : Int) (a1_3 : Int) (a1_4 : Int) (a1_5 : Int) (a1_6 : Int) (a1_7 : Int) (a1_8 : Bool) (A1_9 : Option Addr) (c1_9 : Nat) (l1_9 : List Int) (a2 : Int) (w : World) (hg_ : Glob w) (hr1_9 : Kd.C (Kd.int .i64) w A1_9 l1_9.length l1_9) (hc1_9 : l1_9.length ≤ c1_9) (h : gradinelaw30_PrimTells.f k a0 a1_0 a1_1 a1_2 a1_3 a1_4 a1_5 a1_6 a1_7 a1_8 l1_9 a2 = some true) :
  Calls Tryd.prog 4 #[.int .i64 a0, .agg #[.int .i64 a1_0, .int .i64 a1_1, .int .i64 a1_2, .int .i64 a1_3, .int .i64 a1_4, .int .i64 a1_5, .int .i64 a1_6, .int .i64 a1_7, .bool a1_8, .slice A1_9 l1_9.length c1_9], .int .i64 a2] w fun e w' => e = .returned (.bool true) ∧ Below w.heap.size w w' := by
 have HG_ := aM hg_
 have hu29 := Tryd.underlying29
 have HR1_9 := aM hr1_9
 have HC1_9 := aM hc1_9
 clear hr1_9 hc1_9
 have HB := aM (Below.refl w.heap.size w)
 have H : ((prim_Is.f a0).bind fun zd => ((gradineref30_Class.f k a0).bind fun ze => (if (zd != (decide (ze > 0))) = true then (gradinelaw30_PrimTells.j0 k a0 a2 true a1_0 a1_1 a1_2 a1_3 a1_4 a1_5 a1_6 a1_7 a1_8 l1_9) else ((prim_Word.f a0).bind fun zj => ((gradineref30_Word.f k a0).bind fun zk => (if zj.toList = zk.toList then ((prim_Arity.f k a0).bind fun zn => ((gradineref30_Arity.f k a0).bind fun zo => (if zn = zo then ((prim_Class.f a0).bind fun zt => ((gradineref30_Class.f k a0).bind fun zu => (gradinelaw30_PrimTells.j0 k a0 a2 (zt != zu) a1_0 a1_1 a1_2 a1_3 a1_4 a1_5 a1_6 a1_7 a1_8 l1_9))) else (gradinelaw30_PrimTells.j0 k a0 a2 true a1_0 a1_1 a1_2 a1_3 a1_4 a1_5 a1_6 a1_7 a1_8 l1_9)))) else (gradinelaw30_PrimTells.j0 k a0 a2 true a1_0 a1_1 a1_2 a1_3 a1_4 a1_5 a1_6 a1_7 a1_8 l1_9))))))) = some true := h
 clear h
 have HC4 := aM H
 clear H
 go_enter Tryd.func4, Tryd.ntmps4
 go_upto_region 1 with (first | ((with_reducible refine gate_dst (N := 4) rfl ?_); refine box_event ?hg (N := 4) ?hd (cs := #[.int .i64 a1_0, .int .i64 a1_1, .int .i64 a1_2, .int .i64 a1_3, .int .i64 a1_4, .int .i64 a1_5, .int .i64 a1_6, .int .i64 a1_7, .bool a1_8, .slice A1_9 l1_9.length c1_9]) (t := 29) ?hr ?_; (case hd => rfl); (case hg => rfl); (case hr => first | (go_simp; done) | (go_simp; rfl)); intro zc hg w5 hbox hb; have za := aM (hbox); have GW122 := gE (w := w) hg (qB HB); have zb := GW122; replace HB := bS (qB HB) hb; clear hb hbox hg))
 (try simp only [Act.put, sP])
 go_cut [33] (fun v33 wc => ∃ (kq : Nat) (x33_3 : Bool), v33 = .bool x33_3 ∧ Aside0 (gradinelaw30_PrimTells.j0 kq a0 a2 x33_3 a1_0 a1_1 a1_2 a1_3 a1_4 a1_5 a1_6 a1_7 a1_8 l1_9 = some true) ∧ Aside0 (kq ≤ k) ∧ Aside0 (wc.heap[zc]? = some (.cells #[.int .i64 a1_0, .int .i64 a1_1, .int .i64 a1_2, .int .i64 a1_3, .int .i64 a1_4, .int .i64 a1_5, .int .i64 a1_6, .int .i64 a1_7, .bool a1_8, (.slice A1_9 l1_9.length c1_9)] 29 (0, 0))) ∧ Aside0 (Below w.heap.size w wc))
 case first =>
  have H := HC4.out
  clear HC4
  replace H := Option.bind_eq_some_iff.mp H
  obtain ⟨zd, A60, H⟩ := H
  try dsimp only at H
  have A6 := aM A60
  clear A60
  replace H := Option.bind_eq_some_iff.mp H
  obtain ⟨ze, A70, H⟩ := H
  try dsimp only at H
  have A7 := aM A70
  clear A70
  by_cases c8 : (zd != (decide (ze > 0))) = true
  ·rw [if_pos c8] at H
   have zv : (zd != (decide (ze > 0))) = true := c8
   (try (have c8b1 : decide (zd = (decide (ze > 0))) = false := by simpa using c8))
   (try (have c8b2 : (zd == (decide (ze > 0))) = false := by simpa using c8))
   (try (have c8b3 : ¬ (zd = (decide (ze > 0))) := by simpa using c8))
   clear c8
   (first | rw [zv] | (simp only [i64_w, i32_w]; rw [zv]) | skip)
   have H' := aM H
   clear H
   go_wp2_with (first | ((with_reducible refine gate_callee (f := 8) rfl ?_); refine goesL_ (some 8) rfl rfl Tryd.func8 (by kernel_rfl) rfl #[.int .i64 a0] rfl pA ?_; (with_reducible refine (prim_Is.calls a0 zd _ A6.out).mono ?_); rintro e w' ⟨rfl, ⟨nd, rfl⟩⟩; refine ⟨_, rfl, ?_⟩) | ((with_reducible refine gate_callee (f := 10) rfl ?_); refine goesL_ (some 10) rfl rfl Tryd.func10 (by kernel_rfl) rfl #[.int .i64 a0] rfl pA ?_; (with_reducible refine (gradineref30_Class.calls k a0 ze _ A7.out).mono ?_); rintro e w' ⟨rfl, ⟨nd, rfl⟩⟩; refine ⟨_, rfl, ?_⟩))
   go_meet
   case rel => exact ⟨_, (true), (pF), H', ⟨by first | omega | exact Nat.le_refl _⟩, ⟨pK za.out⟩, ⟨qB1 HB zb⟩⟩
  rw [if_neg c8] at H
  have zv : (zd != (decide (ze > 0))) = false := by simpa using c8
  (try (have c8b1 : decide (zd = (decide (ze > 0))) = true := by simpa using c8))
  (try (have c8b2 : (zd == (decide (ze > 0))) = true := by simpa using c8))
  clear c8
  (first | rw [zv] | (simp only [i64_w, i32_w]; rw [zv]) | skip)
  replace H := Option.bind_eq_some_iff.mp H
  obtain ⟨zj, A90, H⟩ := H
  try dsimp only at H
  have A9 := aM A90
  clear A90
  replace H := Option.bind_eq_some_iff.mp H
  obtain ⟨zk, zz, H⟩ := H
  try dsimp only at H
  have A10 := aM zz
  clear zz
  by_cases c11 : zj.toList = zk.toList
  rotate_left
  ·rw [if_neg c11] at H
   have c11b0 : (zj.toList == zk.toList) = false := beq_eq_false_iff_ne.mpr c11
   have c11b1 : (zj.toList != zk.toList) = true := bne_iff_ne.mpr c11
   have H' := aM H
   clear H
   go_wp2_with (first | ((with_reducible refine gate_callee (f := 8) rfl ?_); refine goesL_ (some 8) rfl rfl Tryd.func8 (by kernel_rfl) rfl #[.int .i64 a0] rfl pA ?_; (with_reducible refine (prim_Is.calls a0 zd _ A6.out).mono ?_); rintro e w' ⟨rfl, ⟨nd, rfl⟩⟩; refine ⟨_, rfl, ?_⟩) | ((with_reducible refine gate_callee (f := 10) rfl ?_); refine goesL_ (some 10) rfl rfl Tryd.func10 (by kernel_rfl) rfl #[.int .i64 a0] rfl pA ?_; (with_reducible refine (gradineref30_Class.calls k a0 ze _ A7.out).mono ?_); rintro e w' ⟨rfl, ⟨nd, rfl⟩⟩; refine ⟨_, rfl, ?_⟩) | (go_at_call 7; (with_reducible refine (prim_Word.calls a0 zj _ ?g1 A9.out).mono ?_); (case g1 => exact Glob.below HG_.out (qB1 HB zb)); rintro e w21 ⟨rfl, hb⟩; replace za := bK za hb; replace HB := bS (qB1 HB zb) hb; (try clear hb); (try clear hk); (try clear hi)) | (go_at_call 11; (with_reducible refine (gradineref30_Word.calls k a0 zk _ A10.out).mono ?_); rintro e w22 ⟨rfl, hb⟩; replace za := bK za hb; replace HB := bS (qB1 HB zb) hb; (try clear hb); (try clear hk); (try clear hi)))
   go_meet
   case rel => exact ⟨_, (true), (pF), H', ⟨by first | omega | exact Nat.le_refl _⟩, ⟨pK za.out⟩, ⟨qB1 HB zb⟩⟩
  rw [if_pos c11] at H
  have c11b0 : (zj.toList == zk.toList) = true := beq_iff_eq.mpr c11
  have c11b1 : (zj.toList != zk.toList) = false := bne_eq_false_iff_eq.mpr c11
  clear c11
  replace H := Option.bind_eq_some_iff.mp H
  obtain ⟨zn, z0, H⟩ := H
  try dsimp only at H
  have A12 := aM z0
  clear z0
  replace H := Option.bind_eq_some_iff.mp H
  obtain ⟨zo, z1, H⟩ := H
  try dsimp only at H
  have A13 := aM z1
  clear z1
  by_cases c14 : zn = zo
  rotate_left
  ·rw [if_neg c14] at H
   have c14b0 : (zn == zo) = false := beq_eq_false_iff_ne.mpr c14
   have c14b1 : (zn != zo) = true := bne_iff_ne.mpr c14
   have H' := aM H
   clear H
   go_wp2_with (first | ((with_reducible refine gate_callee (f := 8) rfl ?_); refine goesL_ (some 8) rfl rfl Tryd.func8 (by kernel_rfl) rfl #[.int .i64 a0] rfl pA ?_; (with_reducible refine (prim_Is.calls a0 zd _ A6.out).mono ?_); rintro e w' ⟨rfl, ⟨nd, rfl⟩⟩; refine ⟨_, rfl, ?_⟩) | ((with_reducible refine gate_callee (f := 10) rfl ?_); refine goesL_ (some 10) rfl rfl Tryd.func10 (by kernel_rfl) rfl #[.int .i64 a0] rfl pA ?_; (with_reducible refine (gradineref30_Class.calls k a0 ze _ A7.out).mono ?_); rintro e w' ⟨rfl, ⟨nd, rfl⟩⟩; refine ⟨_, rfl, ?_⟩) | (go_at_call 7; (with_reducible refine (prim_Word.calls a0 zj _ ?g1 A9.out).mono ?_); (case g1 => exact Glob.below HG_.out (qB1 HB zb)); rintro e w19 ⟨rfl, hb⟩; replace za := bK za hb; replace HB := bS (qB1 HB zb) hb; (try clear hb); (try clear hk); (try clear hi)) | (go_at_call 11; (with_reducible refine (gradineref30_Word.calls k a0 zk _ A10.out).mono ?_); rintro e w20 ⟨rfl, hb⟩; replace za := bK za hb; replace HB := bS (qB1 HB zb) hb; (try clear hb); (try clear hk); (try clear hi)) | (go_at_call 12; (with_reducible refine (prim_Arity.calls k a0 zn _ A12.out).mono ?_); rintro e w' ⟨rfl, ⟨nd, rfl⟩⟩) | (go_at_call 13; (with_reducible refine (gradineref30_Arity.calls k a0 zo _ A13.out).mono ?_); rintro e w' ⟨rfl, ⟨nd, rfl⟩⟩))
   go_meet
   case rel => exact ⟨_, (true), (pF), H', ⟨by first | omega | exact Nat.le_refl _⟩, ⟨pK za.out⟩, ⟨qB1 HB zb⟩⟩
  rw [if_pos c14] at H
  have c14b0 : (zn == zo) = true := beq_iff_eq.mpr c14
  have c14b1 : (zn != zo) = false := bne_eq_false_iff_eq.mpr c14
  clear c14
  replace H := Option.bind_eq_some_iff.mp H
  obtain ⟨zt, z2, H⟩ := H
  try dsimp only at H
  have A15 := aM z2
  clear z2
  replace H := Option.bind_eq_some_iff.mp H
  obtain ⟨zu, z3, H⟩ := H
  try dsimp only at H
  have A16 := aM z3
  clear z3
  have H' := aM H
  clear H
  go_wp2_with (first | ((with_reducible refine gate_callee (f := 8) rfl ?_); refine goesL_ (some 8) rfl rfl Tryd.func8 (by kernel_rfl) rfl #[.int .i64 a0] rfl pA ?_; (with_reducible refine (prim_Is.calls a0 zd _ A6.out).mono ?_); rintro e w' ⟨rfl, ⟨nd, rfl⟩⟩; refine ⟨_, rfl, ?_⟩) | ((with_reducible refine gate_callee (f := 10) rfl ?_); refine goesL_ (some 10) rfl rfl Tryd.func10 (by kernel_rfl) rfl #[.int .i64 a0] rfl pA ?_; (with_reducible refine (gradineref30_Class.calls k a0 ze _ A7.out).mono ?_); rintro e w' ⟨rfl, ⟨nd, rfl⟩⟩; refine ⟨_, rfl, ?_⟩) | (go_at_call 7; (with_reducible refine (prim_Word.calls a0 zj _ ?g1 A9.out).mono ?_); (case g1 => exact Glob.below HG_.out (qB1 HB zb)); rintro e w17 ⟨rfl, hb⟩; replace za := bK za hb; replace HB := bS (qB1 HB zb) hb; (try clear hb); (try clear hk); (try clear hi)) | (go_at_call 11; (with_reducible refine (gradineref30_Word.calls k a0 zk _ A10.out).mono ?_); rintro e w18 ⟨rfl, hb⟩; replace za := bK za hb; replace HB := bS (qB1 HB zb) hb; (try clear hb); (try clear hk); (try clear hi)) | (go_at_call 12; (with_reducible refine (prim_Arity.calls k a0 zn _ A12.out).mono ?_); rintro e w' ⟨rfl, ⟨nd, rfl⟩⟩) | (go_at_call 13; (with_reducible refine (gradineref30_Arity.calls k a0 zo _ A13.out).mono ?_); rintro e w' ⟨rfl, ⟨nd, rfl⟩⟩) | (go_at_call 14; (with_reducible refine (prim_Class.calls a0 zt _ A15.out).mono ?_); rintro e w' ⟨rfl, ⟨nd, rfl⟩⟩) | (go_at_call 10; (with_reducible refine (gradineref30_Class.calls k a0 zu _ A16.out).mono ?_); rintro e w' ⟨rfl, ⟨nd, rfl⟩⟩))
  go_meet
  case rel => exact ⟨_, ((zt != zu)), (pF), H', ⟨by first | omega | exact Nat.le_refl _⟩, ⟨pK za.out⟩, ⟨qB1 HB zb⟩⟩
 case rest =>
  clear HC4
  obtain ⟨kq, x33_3, rfl, HA, HJ3, za, HB⟩ := hcut
  cases kq with
  | zero => exact absurd HA.out (by simp [gradinelaw30_PrimTells.j0])
  | succ kj3 =>
   have H := HA.out
   clear HA
   simp only [gradinelaw30_PrimTells.j0] at H
   by_cases c23 : x33_3 = true
   ·subst c23
    rw [if_pos rfl] at H
    exact absurd H (by simp)
   replace c23 := Bool.eq_false_iff.mpr c23
   subst c23
   rw [if_neg (show ¬ (false = true) by decide)] at H
   have HC24 := aM H
   clear H
   go_upto_region 3 with (fail)
   go_cut [57] (fun v57 wc => ∃ (kq : Nat) (x57_23 : Bool), v57 = .bool x57_23 ∧ Aside0 (gradinelaw30_PrimTells.j1 kq a0 x57_23 = some true) ∧ Aside0 (kq ≤ kj3) ∧ Aside0 (wc.heap[zc]? = some (.cells #[.int .i64 a1_0, .int .i64 a1_1, .int .i64 a1_2, .int .i64 a1_3, .int .i64 a1_4, .int .i64 a1_5, .int .i64 a1_6, .int .i64 a1_7, .bool a1_8, (.slice A1_9 l1_9.length c1_9)] 29 (0, 0))) ∧ Aside0 (Below w.heap.size w wc))
   case first =>
    have H := HC24.out
    clear HC24
    replace H := Option.bind_eq_some_iff.mp H
    obtain ⟨zf, z4, H⟩ := H
    try dsimp only at H
    have A25 := aM z4
    clear z4
    replace H := Option.bind_eq_some_iff.mp H
    obtain ⟨zg, z5, H⟩ := H
    try dsimp only at H
    have A26 := aM z5
    clear z5
    by_cases c27 : (zf != zg) = true
    ·rw [if_pos c27] at H
     have zr : (zf != zg) = true := c27
     (try (have c27b1 : decide (zf = zg) = false := by simpa using c27))
     (try (have c27b2 : (zf == zg) = false := by simpa using c27))
     (try (have c27b3 : ¬ (zf = zg) := by simpa using c27))
     clear c27
     (first | rw [zr] | (simp only [i64_w, i32_w]; rw [zr]) | skip)
     have H' := aM H
     clear H
     try go_wp2
     replace za := aM (blk_drew za.out)
     replace HB := aM (below_drew1 HB.out)
     refine start_ (n := 24) (S := fun w' => True) (ds := []) (bm 24 0) (by kernel_rfl) rfl rfl trivial (fun hHeld => ?_); refine with_tabW gradinelaw30_PrimTells.tab3 gradinelaw30_PrimTells.bits3 (fun HT_ HW_ => ?_)
     generalize wc.drew = w28 at za HB hHeld ⊢
     refine pP (i := 0) (N := some 34) (bm 24 1) rfl rfl HT_.out ?_
     refine pP (i := 2) (N := some 36) (bm 24 5) rfl rfl HT_.out ?_
     refine one_ (i := 1) (N := some 35) (bm 24 7) rfl rfl (one_of HT_.out (by kernel_rfl)) (by decide) (fun K hK => ?_)
     refine goes_ Tryd.func15 (by kernel_rfl) rfl #[.int .i64 a0] (by rfl) rfl rfl pA ?_
     with_reducible refine (prim_Flat.calls a0 zf _ A25.out).mono ?_
     rintro e w' ⟨rfl, ⟨nd, rfl⟩⟩
     refine ⟨_, rfl, ?_⟩
     refine hK.out _ _ trivial (fun hHeld => ?_)
     clear hK K
     refine norm_ (a' := ?_) ?_ ?_
     rotate_left
     ·show Act.put _ (some 35) _ = _
      simp only [Act.put, sP, i64_w, i32_w]
      rfl
     refine one_ (i := 3) (N := some 37) (bm 24 15) rfl rfl (one_of HT_.out (by kernel_rfl)) (by decide) (fun K hK => ?_)
     refine goes_ Tryd.func16 (by kernel_rfl) rfl #[.int .i64 a0] (by rfl) rfl rfl pA ?_
     with_reducible refine (gradineref30_Flat.calls a0 zg _ A26.out).mono ?_
     rintro e w' ⟨rfl, ⟨nd, rfl⟩⟩
     refine ⟨_, rfl, ?_⟩
     refine hK.out _ _ trivial (fun hHeld => ?_)
     clear hK K
     refine norm_ (a' := ?_) ?_ ?_
     rotate_left
     ·show Act.put _ (some 37) _ = _
      simp only [Act.put, sP, i64_w, i32_w]
      rfl
     refine pP (i := 4) (N := some 38) (bm 24 31) rfl rfl HT_.out ?_
     refine pP (i := 5) (N := some 39) (bm 24 63) rfl rfl HT_.out ?_
     refine pure_ (i := 6) (N := some 40) (v := undef) (a' := ?_) (bm 24 127) rfl rfl (any_of HT_.out (by kernel_rfl)) (fun _ _ _ h => h) (Or.inr ⟨by rfl, rfl⟩) ?_ ?_
     rotate_left
     ·simp only [Act.put, sP, i64_w, i32_w]
      rfl
     refine pure_ (i := 7) (N := some 41) (v := undef) (a' := ?_) (bm 24 255) rfl rfl (any_of HT_.out (by kernel_rfl)) (fun _ _ _ h => h) (Or.inr ⟨by rfl, rfl⟩) ?_ ?_
     rotate_left
     ·simp only [Act.put, sP, i64_w, i32_w]
      rfl
     refine pure_ (i := 8) (N := some 42) (v := undef) (a' := ?_) (bm 24 511) rfl rfl (any_of HT_.out (by kernel_rfl)) (fun _ _ _ h => h) (Or.inr ⟨by rfl, rfl⟩) ?_ ?_
     rotate_left
     ·simp only [Act.put, sP, i64_w, i32_w]
      rfl
     refine pure_ (i := 9) (N := some 43) (v := undef) (a' := ?_) (bm 24 1023) rfl rfl (any_of HT_.out (by kernel_rfl)) (fun _ _ _ h => h) (Or.inr ⟨by rfl, rfl⟩) ?_ ?_
     rotate_left
     ·simp only [Act.put, sP, i64_w, i32_w]
      rfl
     refine pure_ (i := 10) (N := some 44) (v := undef) (a' := ?_) (bm 24 2047) rfl rfl (any_of HT_.out (by kernel_rfl)) (fun _ _ _ h => h) (Or.inr ⟨by rfl, rfl⟩) ?_ ?_
     rotate_left
     ·simp only [Act.put, sP, i64_w, i32_w]
      rfl
     refine pP (i := 11) (N := some 45) (bm 24 4095) rfl rfl HT_.out ?_
     refine pP (i := 12) (N := some 46) (bm 24 8191) rfl rfl HT_.out ?_
     refine pure_ (i := 13) (N := some 47) (v := undef) (a' := ?_) (bm 24 16383) rfl rfl (any_of HT_.out (by kernel_rfl)) (fun _ _ _ h => h) (Or.inr ⟨by rfl, rfl⟩) ?_ ?_
     rotate_left
     ·simp only [Act.put, sP, i64_w, i32_w]
      rfl
     refine pure_ (i := 14) (N := some 48) (v := undef) (a' := ?_) (bm 24 32767) rfl rfl (any_of HT_.out (by kernel_rfl)) (fun _ _ _ h => h) (Or.inr ⟨by rfl, rfl⟩) ?_ ?_
     rotate_left
     ·simp only [Act.put, sP, i64_w, i32_w]
      rfl
     refine pure_ (i := 15) (N := some 49) (v := undef) (a' := ?_) (bm 24 65535) rfl rfl (any_of HT_.out (by kernel_rfl)) (fun _ _ _ h => h) (Or.inr ⟨by rfl, rfl⟩) ?_ ?_
     rotate_left
     ·simp only [Act.put, sP, i64_w, i32_w]
      rfl
     refine pure_ (i := 16) (N := some 50) (v := undef) (a' := ?_) (bm 24 131071) rfl rfl (any_of HT_.out (by kernel_rfl)) (fun _ _ _ h => h) (Or.inr ⟨by rfl, rfl⟩) ?_ ?_
     rotate_left
     ·simp only [Act.put, sP, i64_w, i32_w]
      rfl
     refine pure_ (i := 17) (N := some 51) (v := undef) (a' := ?_) (bm 24 262143) rfl rfl (any_of HT_.out (by kernel_rfl)) (fun _ _ _ h => h) (Or.inr ⟨by rfl, rfl⟩) ?_ ?_
     rotate_left
     ·simp only [Act.put, sP, i64_w, i32_w]
      rfl
     refine pure_ (i := 18) (N := some 52) (v := undef) (a' := ?_) (bm 24 524287) rfl rfl (any_of HT_.out (by kernel_rfl)) (fun _ _ _ h => h) (Or.inr ⟨by rfl, rfl⟩) ?_ ?_
     rotate_left
     ·simp only [Act.put, sP, i64_w, i32_w]
      rfl
     refine pure_ (i := 19) (N := some 53) (v := undef) (a' := ?_) (bm 24 1048575) rfl rfl (any_of HT_.out (by kernel_rfl)) (fun _ _ _ h => h) (Or.inr ⟨by rfl, rfl⟩) ?_ ?_
     rotate_left
     ·simp only [Act.put, sP, i64_w, i32_w]
      rfl
     refine pure_ (i := 20) (N := some 54) (v := undef) (a' := ?_) (bm 24 2097151) rfl rfl (any_of HT_.out (by kernel_rfl)) (fun _ _ _ h => h) (Or.inr ⟨by rfl, rfl⟩) ?_ ?_
     rotate_left
     ·simp only [Act.put, sP, i64_w, i32_w]
      rfl
     refine pure_ (i := 21) (N := some 55) (v := undef) (a' := ?_) (bm 24 4194303) rfl rfl (any_of HT_.out (by kernel_rfl)) (fun _ _ _ h => h) (Or.inr ⟨by rfl, rfl⟩) ?_ ?_
     rotate_left
     ·simp only [Act.put, sP, i64_w, i32_w]
      rfl
     refine pure_ (i := 22) (N := some 56) (v := undef) (a' := ?_) (bm 24 8388607) rfl rfl (any_of HT_.out (by kernel_rfl)) (fun _ _ _ h => h) (Or.inr ⟨by rfl, rfl⟩) ?_ ?_
     rotate_left
     ·simp only [Act.put, sP, i64_w, i32_w]
      rfl
     refine pP (i := 23) (N := some 57) (bm 24 16777215) rfl rfl HT_.out ?_
     refine done_ (done_of HT_.out (by kernel_rfl)) ?_
     try go_wp2
     go_meet
     case rel => exact ⟨_, (true), (pF), H', ⟨by have := HJ3.out; first | omega | exact Nat.le_refl _⟩, ⟨pK za.out⟩, ⟨qB1 HB zb⟩⟩
    rw [if_neg c27] at H
    have zr : (zf != zg) = false := by simpa using c27
    (try (have c27b1 : decide (zf = zg) = true := by simpa using c27))
    (try (have c27b2 : (zf == zg) = true := by simpa using c27))
    clear c27
    (first | rw [zr] | (simp only [i64_w, i32_w]; rw [zr]) | skip)
    replace H := Option.bind_eq_some_iff.mp H
    obtain ⟨zh, z6, H⟩ := H
    try dsimp only at H
    have A29 := aM z6
    clear z6
    replace H := Option.bind_eq_some_iff.mp H
    obtain ⟨zi, z7, H⟩ := H
    try dsimp only at H
    have A30 := aM z7
    clear z7
    by_cases c31 : (zh != zi) = true
    ·rw [if_pos c31] at H
     have c31b0 : (zh != zi) = true := c31
     (try (have c31b1 : decide (zh = zi) = false := by simpa using c31))
     (try (have c31b2 : (zh == zi) = false := by simpa using c31))
     (try (have c31b3 : ¬ (zh = zi) := by simpa using c31))
     clear c31
     have H' := aM H
     clear H
     try go_wp2
     replace za := aM (blk_drew za.out)
     replace HB := aM (below_drew1 HB.out)
     refine start_ (n := 24) (S := fun w' => True) (ds := []) (bm 24 0) (by kernel_rfl) rfl rfl trivial (fun hHeld => ?_); refine with_tabW gradinelaw30_PrimTells.tab3 gradinelaw30_PrimTells.bits3 (fun HT_ HW_ => ?_)
     generalize wc.drew = w32 at za HB hHeld ⊢
     refine pP (i := 0) (N := some 34) (bm 24 1) rfl rfl HT_.out ?_
     refine pP (i := 2) (N := some 36) (bm 24 5) rfl rfl HT_.out ?_
     refine one_ (i := 1) (N := some 35) (bm 24 7) rfl rfl (one_of HT_.out (by kernel_rfl)) (by decide) (fun K hK => ?_)
     refine goes_ Tryd.func15 (by kernel_rfl) rfl #[.int .i64 a0] (by rfl) rfl rfl pA ?_
     with_reducible refine (prim_Flat.calls a0 zf _ A25.out).mono ?_
     rintro e w' ⟨rfl, ⟨nd, rfl⟩⟩
     refine ⟨_, rfl, ?_⟩
     refine hK.out _ _ trivial (fun hHeld => ?_)
     clear hK K
     refine norm_ (a' := ?_) ?_ ?_
     rotate_left
     ·show Act.put _ (some 35) _ = _
      simp only [Act.put, sP, i64_w, i32_w]
      rfl
     refine one_ (i := 3) (N := some 37) (bm 24 15) rfl rfl (one_of HT_.out (by kernel_rfl)) (by decide) (fun K hK => ?_)
     refine goes_ Tryd.func16 (by kernel_rfl) rfl #[.int .i64 a0] (by rfl) rfl rfl pA ?_
     with_reducible refine (gradineref30_Flat.calls a0 zg _ A26.out).mono ?_
     rintro e w' ⟨rfl, ⟨nd, rfl⟩⟩
     refine ⟨_, rfl, ?_⟩
     refine hK.out _ _ trivial (fun hHeld => ?_)
     clear hK K
     refine norm_ (a' := ?_) ?_ ?_
     rotate_left
     ·show Act.put _ (some 37) _ = _
      simp only [Act.put, sP, i64_w, i32_w]
      rfl
     refine pP (i := 4) (N := some 38) (bm 24 31) rfl rfl HT_.out ?_
     refine pP (i := 5) (N := some 39) (bm 24 63) rfl rfl HT_.out ?_
     refine pP (i := 6) (N := some 40) (bm 24 127) rfl rfl HT_.out ?_
     refine pP (i := 8) (N := some 42) (bm 24 383) rfl rfl HT_.out ?_
     refine one_ (i := 7) (N := some 41) (bm 24 511) rfl rfl (one_of HT_.out (by kernel_rfl)) (by decide) (fun K hK => ?_)
     refine goes_ Tryd.func17 (by kernel_rfl) rfl #[.int .i64 a0] (by rfl) rfl rfl pA ?_
     with_reducible refine (prim_Inexact.calls a0 zh _ A29.out).mono ?_
     rintro e w' ⟨rfl, ⟨nd, rfl⟩⟩
     refine ⟨_, rfl, ?_⟩
     refine hK.out _ _ trivial (fun hHeld => ?_)
     clear hK K
     refine norm_ (a' := ?_) ?_ ?_
     rotate_left
     ·show Act.put _ (some 41) _ = _
      simp only [Act.put, sP, i64_w, i32_w]
      rfl
     refine one_ (i := 9) (N := some 43) (bm 24 1023) rfl rfl (one_of HT_.out (by kernel_rfl)) (by decide) (fun K hK => ?_)
     refine goes_ Tryd.func18 (by kernel_rfl) rfl #[.int .i64 a0] (by rfl) rfl rfl pA ?_
     with_reducible refine (gradineref30_Inexact.calls a0 zi _ A30.out).mono ?_
     rintro e w' ⟨rfl, ⟨nd, rfl⟩⟩
     refine ⟨_, rfl, ?_⟩
     refine hK.out _ _ trivial (fun hHeld => ?_)
     clear hK K
     refine norm_ (a' := ?_) ?_ ?_
     rotate_left
     ·show Act.put _ (some 43) _ = _
      simp only [Act.put, sP, i64_w, i32_w]
      rfl
     refine pP (i := 10) (N := some 44) (bm 24 2047) rfl rfl HT_.out ?_
     refine pP (i := 11) (N := some 45) (bm 24 4095) rfl rfl HT_.out ?_
     refine pP (i := 12) (N := some 46) (bm 24 8191) rfl rfl HT_.out ?_
     refine pure_ (i := 13) (N := some 47) (v := undef) (a' := ?_) (bm 24 16383) rfl rfl (any_of HT_.out (by kernel_rfl)) (fun _ _ _ h => h) (Or.inr ⟨by rfl, rfl⟩) ?_ ?_
     rotate_left
     ·simp only [Act.put, sP, i64_w, i32_w]
      rfl
     refine pure_ (i := 14) (N := some 48) (v := undef) (a' := ?_) (bm 24 32767) rfl rfl (any_of HT_.out (by kernel_rfl)) (fun _ _ _ h => h) (Or.inr ⟨by rfl, rfl⟩) ?_ ?_
     rotate_left
     ·simp only [Act.put, sP, i64_w, i32_w]
      rfl
     refine pure_ (i := 15) (N := some 49) (v := undef) (a' := ?_) (bm 24 65535) rfl rfl (any_of HT_.out (by kernel_rfl)) (fun _ _ _ h => h) (Or.inr ⟨by rfl, rfl⟩) ?_ ?_
     rotate_left
     ·simp only [Act.put, sP, i64_w, i32_w]
      rfl
     refine pure_ (i := 16) (N := some 50) (v := undef) (a' := ?_) (bm 24 131071) rfl rfl (any_of HT_.out (by kernel_rfl)) (fun _ _ _ h => h) (Or.inr ⟨by rfl, rfl⟩) ?_ ?_
     rotate_left
     ·simp only [Act.put, sP, i64_w, i32_w]
      rfl
     refine pure_ (i := 17) (N := some 51) (v := undef) (a' := ?_) (bm 24 262143) rfl rfl (any_of HT_.out (by kernel_rfl)) (fun _ _ _ h => h) (Or.inr ⟨by rfl, rfl⟩) ?_ ?_
     rotate_left
     ·simp only [Act.put, sP, i64_w, i32_w]
      rfl
     refine pure_ (i := 18) (N := some 52) (v := undef) (a' := ?_) (bm 24 524287) rfl rfl (any_of HT_.out (by kernel_rfl)) (fun _ _ _ h => h) (Or.inr ⟨by rfl, rfl⟩) ?_ ?_
     rotate_left
     ·simp only [Act.put, sP, i64_w, i32_w]
      rfl
     refine pure_ (i := 19) (N := some 53) (v := undef) (a' := ?_) (bm 24 1048575) rfl rfl (any_of HT_.out (by kernel_rfl)) (fun _ _ _ h => h) (Or.inr ⟨by rfl, rfl⟩) ?_ ?_
     rotate_left
     ·simp only [Act.put, sP, i64_w, i32_w]
      rfl
     refine pure_ (i := 20) (N := some 54) (v := undef) (a' := ?_) (bm 24 2097151) rfl rfl (any_of HT_.out (by kernel_rfl)) (fun _ _ _ h => h) (Or.inr ⟨by rfl, rfl⟩) ?_ ?_
     rotate_left
     ·simp only [Act.put, sP, i64_w, i32_w]
      rfl
     refine pure_ (i := 21) (N := some 55) (v := undef) (a' := ?_) (bm 24 4194303) rfl rfl (any_of HT_.out (by kernel_rfl)) (fun _ _ _ h => h) (Or.inr ⟨by rfl, rfl⟩) ?_ ?_
     rotate_left
     ·simp only [Act.put, sP, i64_w, i32_w]
      rfl
     refine pure_ (i := 22) (N := some 56) (v := undef) (a' := ?_) (bm 24 8388607) rfl rfl (any_of HT_.out (by kernel_rfl)) (fun _ _ _ h => h) (Or.inr ⟨by rfl, rfl⟩) ?_ ?_
     rotate_left
     ·simp only [Act.put, sP, i64_w, i32_w]
      rfl
     refine pP (i := 23) (N := some 57) (bm 24 16777215) rfl rfl HT_.out ?_
     refine done_ (done_of HT_.out (by kernel_rfl)) ?_
     try go_wp2
     go_meet
     case rel => exact ⟨_, (true), (pF), H', ⟨by have := HJ3.out; first | omega | exact Nat.le_refl _⟩, ⟨pK za.out⟩, ⟨qB1 HB zb⟩⟩
    rw [if_neg c31] at H
    have c31b0 : (zh != zi) = false := by simpa using c31
    (try (have c31b1 : decide (zh = zi) = true := by simpa using c31))
    (try (have c31b2 : (zh == zi) = true := by simpa using c31))
    clear c31
    replace H := Option.bind_eq_some_iff.mp H
    obtain ⟨zw, z8, H⟩ := H
    try dsimp only at H
    have A33 := aM z8
    clear z8
    replace H := Option.bind_eq_some_iff.mp H
    obtain ⟨zx, z9, H⟩ := H
    try dsimp only at H
    have A34 := aM z9
    clear z9
    have H' := aM H
    clear H
    try go_wp2
    replace za := aM (blk_drew za.out)
    replace HB := aM (below_drew1 HB.out)
    refine start_ (n := 24) (S := fun w' => w'.cell? ⟨zc, 0, none⟩ = some (.int .i64 a1_0) ∧ w'.cell? ⟨zc, 1, none⟩ = some (.int .i64 a1_1) ∧ w'.cell? ⟨zc, 2, none⟩ = some (.int .i64 a1_2) ∧ w'.cell? ⟨zc, 3, none⟩ = some (.int .i64 a1_3) ∧ w'.cell? ⟨zc, 4, none⟩ = some (.int .i64 a1_4) ∧ w'.cell? ⟨zc, 5, none⟩ = some (.int .i64 a1_5) ∧ w'.cell? ⟨zc, 6, none⟩ = some (.int .i64 a1_6) ∧ w'.cell? ⟨zc, 7, none⟩ = some (.int .i64 a1_7) ∧ w'.cell? ⟨zc, 8, none⟩ = some (.bool a1_8) ∧ w'.cell? ⟨zc, 9, none⟩ = some (.slice A1_9 l1_9.length c1_9)) (ds := []) (bm 24 0) (by kernel_rfl) rfl rfl ⟨(blk_cell za.out 0).trans rfl, (blk_cell za.out 1).trans rfl, (blk_cell za.out 2).trans rfl, (blk_cell za.out 3).trans rfl, (blk_cell za.out 4).trans rfl, (blk_cell za.out 5).trans rfl, (blk_cell za.out 6).trans rfl, (blk_cell za.out 7).trans rfl, (blk_cell za.out 8).trans rfl, (blk_cell za.out 9).trans rfl⟩ (fun hHeld => ?_); refine with_tabW gradinelaw30_PrimTells.tab3 gradinelaw30_PrimTells.bits3 (fun HT_ HW_ => ?_)
    generalize wc.drew = w35 at za HB hHeld ⊢
    refine pP (i := 0) (N := some 34) (bm 24 1) rfl rfl HT_.out ?_
    refine pP (i := 2) (N := some 36) (bm 24 5) rfl rfl HT_.out ?_
    refine one_ (i := 1) (N := some 35) (bm 24 7) rfl rfl (one_of HT_.out (by kernel_rfl)) (by decide) (fun K hK => ?_)
    refine goes_ Tryd.func15 (by kernel_rfl) rfl #[.int .i64 a0] (by rfl) rfl rfl pA ?_
    with_reducible refine (prim_Flat.calls a0 zf _ A25.out).mono ?_
    rintro e w' ⟨rfl, ⟨nd, rfl⟩⟩
    refine ⟨_, rfl, ?_⟩
    refine hK.out _ _ ⟨(blk_cell za.out 0).trans rfl, (blk_cell za.out 1).trans rfl, (blk_cell za.out 2).trans rfl, (blk_cell za.out 3).trans rfl, (blk_cell za.out 4).trans rfl, (blk_cell za.out 5).trans rfl, (blk_cell za.out 6).trans rfl, (blk_cell za.out 7).trans rfl, (blk_cell za.out 8).trans rfl, (blk_cell za.out 9).trans rfl⟩ (fun hHeld => ?_)
    clear hK K
    refine norm_ (a' := ?_) ?_ ?_
    rotate_left
    ·show Act.put _ (some 35) _ = _
     simp only [Act.put, sP, i64_w, i32_w]
     rfl
    refine one_ (i := 3) (N := some 37) (bm 24 15) rfl rfl (one_of HT_.out (by kernel_rfl)) (by decide) (fun K hK => ?_)
    refine goes_ Tryd.func16 (by kernel_rfl) rfl #[.int .i64 a0] (by rfl) rfl rfl pA ?_
    with_reducible refine (gradineref30_Flat.calls a0 zg _ A26.out).mono ?_
    rintro e w' ⟨rfl, ⟨nd, rfl⟩⟩
    refine ⟨_, rfl, ?_⟩
    refine hK.out _ _ ⟨(blk_cell za.out 0).trans rfl, (blk_cell za.out 1).trans rfl, (blk_cell za.out 2).trans rfl, (blk_cell za.out 3).trans rfl, (blk_cell za.out 4).trans rfl, (blk_cell za.out 5).trans rfl, (blk_cell za.out 6).trans rfl, (blk_cell za.out 7).trans rfl, (blk_cell za.out 8).trans rfl, (blk_cell za.out 9).trans rfl⟩ (fun hHeld => ?_)
    clear hK K
    refine norm_ (a' := ?_) ?_ ?_
    rotate_left
    ·show Act.put _ (some 37) _ = _
     simp only [Act.put, sP, i64_w, i32_w]
     rfl
    refine pP (i := 4) (N := some 38) (bm 24 31) rfl rfl HT_.out ?_
    refine pP (i := 5) (N := some 39) (bm 24 63) rfl rfl HT_.out ?_
    refine pP (i := 6) (N := some 40) (bm 24 127) rfl rfl HT_.out ?_
    refine pP (i := 8) (N := some 42) (bm 24 383) rfl rfl HT_.out ?_
    refine one_ (i := 7) (N := some 41) (bm 24 511) rfl rfl (one_of HT_.out (by kernel_rfl)) (by decide) (fun K hK => ?_)
    refine goes_ Tryd.func17 (by kernel_rfl) rfl #[.int .i64 a0] (by rfl) rfl rfl pA ?_
    with_reducible refine (prim_Inexact.calls a0 zh _ A29.out).mono ?_
    rintro e w' ⟨rfl, ⟨nd, rfl⟩⟩
    refine ⟨_, rfl, ?_⟩
    refine hK.out _ _ ⟨(blk_cell za.out 0).trans rfl, (blk_cell za.out 1).trans rfl, (blk_cell za.out 2).trans rfl, (blk_cell za.out 3).trans rfl, (blk_cell za.out 4).trans rfl, (blk_cell za.out 5).trans rfl, (blk_cell za.out 6).trans rfl, (blk_cell za.out 7).trans rfl, (blk_cell za.out 8).trans rfl, (blk_cell za.out 9).trans rfl⟩ (fun hHeld => ?_)
    clear hK K
    refine norm_ (a' := ?_) ?_ ?_
    rotate_left
    ·show Act.put _ (some 41) _ = _
     simp only [Act.put, sP, i64_w, i32_w]
     rfl
    refine one_ (i := 9) (N := some 43) (bm 24 1023) rfl rfl (one_of HT_.out (by kernel_rfl)) (by decide) (fun K hK => ?_)
    refine goes_ Tryd.func18 (by kernel_rfl) rfl #[.int .i64 a0] (by rfl) rfl rfl pA ?_
    with_reducible refine (gradineref30_Inexact.calls a0 zi _ A30.out).mono ?_
    rintro e w' ⟨rfl, ⟨nd, rfl⟩⟩
    refine ⟨_, rfl, ?_⟩
    refine hK.out _ _ ⟨(blk_cell za.out 0).trans rfl, (blk_cell za.out 1).trans rfl, (blk_cell za.out 2).trans rfl, (blk_cell za.out 3).trans rfl, (blk_cell za.out 4).trans rfl, (blk_cell za.out 5).trans rfl, (blk_cell za.out 6).trans rfl, (blk_cell za.out 7).trans rfl, (blk_cell za.out 8).trans rfl, (blk_cell za.out 9).trans rfl⟩ (fun hHeld => ?_)
    clear hK K
    refine norm_ (a' := ?_) ?_ ?_
    rotate_left
    ·show Act.put _ (some 43) _ = _
     simp only [Act.put, sP, i64_w, i32_w]
     rfl
    refine pP (i := 10) (N := some 44) (bm 24 2047) rfl rfl HT_.out ?_
    refine pP (i := 11) (N := some 45) (bm 24 4095) rfl rfl HT_.out ?_
    refine pP (i := 12) (N := some 46) (bm 24 8191) rfl rfl HT_.out ?_
    refine pP (i := 13) (N := some 47) (bm 24 16383) rfl rfl HT_.out ?_
    refine pP (i := 15) (N := some 49) (bm 24 49151) rfl rfl HT_.out ?_
    refine pP (i := 17) (N := some 51) (bm 24 180223) rfl rfl HT_.out ?_
    refine pP (i := 18) (N := some 52) (bm 24 442367) rfl rfl HT_.out ?_
    refine pP (i := 20) (N := some 54) (bm 24 1490943) rfl rfl HT_.out ?_
    refine pT (i := 14) (N := some 48) (bm 24 1507327) rfl rfl HT_.out HW_.out hHeld (by rintro w' ⟨s0, s1, s2, s3, s4, s5, s6, s7, s8, s9⟩; go_simp; with_reducible rfl) ?_
    refine pT (i := 19) (N := some 53) (bm 24 2031615) rfl rfl HT_.out HW_.out hHeld (by rintro w' ⟨s0, s1, s2, s3, s4, s5, s6, s7, s8, s9⟩; go_simp; with_reducible rfl) ?_
    refine one_ (i := 16) (N := some 50) (bm 24 2097151) rfl rfl (one_of HT_.out (by kernel_rfl)) (by decide) (fun K hK => ?_)
    refine goes_ Tryd.func19 (by kernel_rfl) rfl #[.int .i64 a0, .agg #[.int .i64 a1_0, .int .i64 a1_1, .int .i64 a1_2, .int .i64 a1_3, .int .i64 a1_4, .int .i64 a1_5, .int .i64 a1_6, .int .i64 a1_7, .bool a1_8, .slice A1_9 l1_9.length c1_9], .int .i64 a2] (by rfl) rfl rfl pA ?_
    with_reducible refine (prim_Needs.calls kj3 a0 a1_0 a1_1 a1_2 a1_3 a1_4 a1_5 a1_6 a1_7 a1_8 _ _ l1_9 a2 zw _ ?s1 ?s2 A33.out).mono ?_
    (case s1 => exact pC (Kd.C_below HR1_9.out (qB1 HB zb)))
    (case s2 => exact HC1_9.out)
    rintro e w36 ⟨rfl, hb⟩
    refine ⟨_, rfl, ?_⟩
    replace za := bK za hb
    replace HB := bS (qB1 HB zb) hb
    (try clear hb)
    refine hK.out _ _ ⟨(blk_cell za.out 0).trans rfl, (blk_cell za.out 1).trans rfl, (blk_cell za.out 2).trans rfl, (blk_cell za.out 3).trans rfl, (blk_cell za.out 4).trans rfl, (blk_cell za.out 5).trans rfl, (blk_cell za.out 6).trans rfl, (blk_cell za.out 7).trans rfl, (blk_cell za.out 8).trans rfl, (blk_cell za.out 9).trans rfl⟩ (fun hHeld => ?_)
    clear hK K
    refine norm_ (a' := ?_) ?_ ?_
    rotate_left
    ·show Act.put _ (some 50) _ = _
     simp only [Act.put, sP, i64_w, i32_w]
     rfl
    refine one_ (i := 21) (N := some 55) (bm 24 4194303) rfl rfl (one_of HT_.out (by kernel_rfl)) (by decide) (fun K hK => ?_)
    refine goes_ Tryd.func20 (by kernel_rfl) rfl #[.int .i64 a0, .int .i64 a1_0, .int .i64 a2] (by rfl) rfl rfl pA ?_
    with_reducible refine (gradineref30_Needs.calls kj3 a0 a1_0 a2 zx _ A34.out).mono ?_
    rintro e w' ⟨rfl, ⟨nd, rfl⟩⟩
    refine ⟨_, rfl, ?_⟩
    refine hK.out _ _ ⟨(blk_cell za.out 0).trans rfl, (blk_cell za.out 1).trans rfl, (blk_cell za.out 2).trans rfl, (blk_cell za.out 3).trans rfl, (blk_cell za.out 4).trans rfl, (blk_cell za.out 5).trans rfl, (blk_cell za.out 6).trans rfl, (blk_cell za.out 7).trans rfl, (blk_cell za.out 8).trans rfl, (blk_cell za.out 9).trans rfl⟩ (fun hHeld => ?_)
    clear hK K
    refine norm_ (a' := ?_) ?_ ?_
    rotate_left
    ·show Act.put _ (some 55) _ = _
     simp only [Act.put, sP, i64_w, i32_w]
     rfl
    refine pP (i := 22) (N := some 56) (bm 24 8388607) rfl rfl HT_.out ?_
    refine pP (i := 23) (N := some 57) (bm 24 16777215) rfl rfl HT_.out ?_
    refine done_ (done_of HT_.out (by kernel_rfl)) ?_
    try go_wp2
    go_meet
    case rel => exact ⟨_, ((zw != zx)), (pF), H', ⟨by have := HJ3.out; first | omega | exact Nat.le_refl _⟩, ⟨pK za.out⟩, ⟨qB1 HB zb⟩⟩
   case rest =>
    clear HC24
    obtain ⟨kq, x57_23, rfl, HA, HJ23, za, HB⟩ := hcut
    cases kq with
    | zero => exact absurd HA.out (by simp [gradinelaw30_PrimTells.j1])
    | succ zaa =>
     have H := HA.out
     clear HA
     simp only [gradinelaw30_PrimTells.j1] at H
     by_cases c37 : x57_23 = true
     ·subst c37
      rw [if_pos rfl] at H
      exact absurd H (by simp)
     replace c37 := Bool.eq_false_iff.mpr c37
     subst c37
     rw [if_neg (show ¬ (false = true) by decide)] at H
     replace H := Option.bind_eq_some_iff.mp H
     obtain ⟨zp, zab, H⟩ := H
     try dsimp only at H
     have A38 := aM zab
     clear zab
     replace H := Option.bind_eq_some_iff.mp H
     obtain ⟨zq, zac, H⟩ := H
     try dsimp only at H
     have A39 := aM zac
     clear zac
     by_cases c40 : zp = zq
     rotate_left
     ·rw [if_neg c40] at H
      have c40b0 : (zp == zq) = false := beq_eq_false_iff_ne.mpr c40
      have c40b1 : (zp != zq) = true := bne_iff_ne.mpr c40
      exact absurd H (by simp)

     rw [if_pos c40] at H
     have c40b0 : (zp == zq) = true := beq_iff_eq.mpr c40
     have c40b1 : (zp != zq) = false := bne_eq_false_iff_eq.mpr c40
     clear c40
     replace H := Option.bind_eq_some_iff.mp H
     obtain ⟨zl, zad, H⟩ := H
     try dsimp only at H
     have A41 := aM zad
     clear zad
     replace H := Option.bind_eq_some_iff.mp H
     obtain ⟨zm, zae, H⟩ := H
     try dsimp only at H
     have A42 := aM zae
     clear zae
     by_cases c43 : (zl == zm) = true
     rotate_left
     ·rw [if_neg c43] at H
      have c43b0 : (zl == zm) = false := by simpa using c43
      (try (have c43b1 : decide (zl = zm) = false := by simpa using c43))
      (try (have c43b2 : (zl == zm) = false := by simpa using c43))
      (try (have c43b3 : ¬ (zl = zm) := by simpa using c43))
      clear c43
      exact absurd H (by simp)
     rw [if_pos c43] at H
     have c43b0 : (zl == zm) = true := c43
     (try (have c43b1 : decide (zl = zm) = true := by simpa using c43))
     (try (have c43b2 : (zl == zm) = true := by simpa using c43))
     clear c43
     replace H := Option.bind_eq_some_iff.mp H
     obtain ⟨zy, zaf, H⟩ := H
     try dsimp only at H
     have A44 := aM zaf
     clear zaf
     have hv_ := aM (Option.some.inj H)
     clear H
     go_wp2_with (first | ((with_reducible refine gate_callee (f := 21) rfl ?_); refine goesL_ (some 59) rfl rfl Tryd.func21 (by kernel_rfl) rfl #[.int .i64 a0] rfl pA ?_; (with_reducible refine (prim_Choices.calls zaa a0 zp _ A38.out).mono ?_); rintro e w' ⟨rfl, ⟨nd, rfl⟩⟩; refine ⟨_, rfl, ?_⟩) | ((with_reducible refine gate_callee (f := 22) rfl ?_); refine goesL_ (some 61) rfl rfl Tryd.func22 (by kernel_rfl) rfl #[.int .i64 a0] rfl pA ?_; (with_reducible refine (gradineref30_Choices.calls a0 zq _ A39.out).mono ?_); rintro e w' ⟨rfl, ⟨nd, rfl⟩⟩; refine ⟨_, rfl, ?_⟩) | (go_at_call 23; (with_reducible refine (prim_Picks.calls zaa a0 zl _ A41.out).mono ?_); rintro e w' ⟨rfl, ⟨nd, rfl⟩⟩) | (go_at_call 24; (with_reducible refine (gradineref30_Picks.calls a0 zm _ A42.out).mono ?_); rintro e w' ⟨rfl, ⟨nd, rfl⟩⟩) | (go_at_call 9; (with_reducible refine (gradinelaw30_same.calls  zy _ ?g1 A44.out).mono ?_); (case g1 => exact Glob.below HG_.out (qB1 HB zb)); rintro e w45 ⟨rfl, hb⟩; replace za := bK za hb; replace HB := bS (qB1 HB zb) hb; (try clear hb); (try clear hk); (try clear hi)))
     go_ret
     replace hv_ := hv_.out
     exact ⟨pE, qB1 HB zb⟩
end Go.Proofs.YthoilhonhjemmaaDoor.Q
