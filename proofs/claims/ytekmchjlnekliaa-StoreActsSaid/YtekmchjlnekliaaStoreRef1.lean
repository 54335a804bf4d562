/- The reference's Put. -/
import Derived.Test.YtekmchjlnekliaaQxfBankCopied
import Derived.Test.YtekmchjlnekliaaQxfBankCopy
import Derived.Test.YtekmchjlnekliaaQxfLaw24Many
import Derived.Test.YtekmchjlnekliaaQxfPlainLong
import Derived.Test.YtekmchjlnekliaaQxfPlainWide
import Derived.Test.YtekmchjlnekliaaQxfRef07Same
import Derived.Test.YtekmchjlnekliaaQxfRef07Words
import Derived.Test.YtekmchjlnekliaaQxfRef18All
import Derived.Test.YtekmchjlnekliaaQxfRef18Same
import Derived.Test.YtekmchjlnekliaaQxfRef19Has
import Derived.Test.YtekmchjlnekliaaQxfStoreCopies
import Derived.Test.YtekmchjlnekliaaStoreNew
import Derived.Test.YtekmchjlnekliaaStoreGet
import Derived.Test.YtekmchjlnekliaaStorePut
import Derived.Test.YtekmchjlnekliaaStoreNil
import Derived.Test.YtekmchjlnekliaaStoreLaw
import Derived.Test.YtekmchjlnekliaaStoreRef0
namespace Go.Proofs.Ytekmchjlnekliaa.Q
open Go.RowKit Go.Proofs.YtekmchjlnekliaaW.PrintWords Go.Proofs.YtekmchjlnekliaaW.PrintLast Go.Proofs.YtekmchjlnekliaaW.PrintMore
attribute [local go_sem] max2_int min2_int max_two min_two max_three min_three max_four min_four
set_option linter.unusedVariables false
set_option linter.unusedSimpArgs false
namespace Rf
/-- Is none met twice? -/
def put.a1 (l1 : List Int) : Nat → Nat → Bool
 | 0, _ => true
 | q + 1, i => if gradineref19_Has.f 200 (l1.take i) (rd l1 (i : Int)) = some true then false else put.a1 l1 q (i + 1)
def PP (W w : World) (gf : Nat) (A : Option Addr) (c : Nat) (V : List S43) (ver E : Int) (U : List S43) (e : Ending) (w' : World) : Prop := e = .returned (.int .i64 E) ∧ ((E ≠ 0 ∧ U = V ∧ Below w.heap.size w w') ∨
  (E = 0 ∧ ∃ A' c', w'.heap[gf]? = some (.cells #[.slice A' V.length c', .int .i64 (wrap64 (ver + 1))] 48 (0, 0)) ∧ Kd.S (kE W) 43 w' w.heap.size (fun _ => True) (.slice A' V.length c') U ∧ Below W.heap.size W w' ∧ w.heap.size ≤ w'.heap.size ∧ ∀ k, k < w.heap.size → k ≠ gf → w'.heap[k]? = w.heap[k]?))
theorem C_pre {w : World} {A : Option Addr} {n : Nat} {l : List Int} (h : Kd.C (Kd.int .i64) w A n l) (i : Nat) (hi : i ≤ n) : Kd.C (Kd.int .i64) w A (l.take i).length (l.take i) := by
  have hl := h.1
  have hm : (l.take i).length = i := by simp; omega
  refine ⟨rfl, by have := h.2.1; omega, fun hp => ?_⟩
  obtain ⟨ad, e, hc⟩ := h.2.2 (by omega)
  exact ⟨ad, e, fun j p hj => hc j p (by rw [List.getElem?_take] at hj; split at hj; exact hj; cases hj)⟩
theorem has (A : Option Addr) (c : Nat) (l : List Int) (i : Nat) (x : Int) (b : Bool) (w : World) (h : Kd.C (Kd.int .i64) w A l.length l) (hc : l.length ≤ c) (hi : i ≤ l.length) (hf : gradineref19_Has.f 200 (l.take i) x = some b) : Calls Try.prog 11 #[.slice A i c, .int .i64 x] w fun e w' => e = .returned (.bool b) ∧ Below w.heap.size w w' := by
  have hm : (l.take i).length = i := by simp; omega
  have := gradineref19_Has.calls 200 A c (l.take i) x b w (C_pre h i hi) (by omega) hf
  rw [hm] at this
  exact this.mono fun e w' h => ⟨h.1, h.2.below⟩
def rp.T6 : Bool × List (List Nat × List Nat) := (true, [([], []), ([], []), ([0, 1], [0, 1]), ([2], [2]), ([3], [3]), ([4], [4]), ([5], [5]), ([5], [5]), ([6, 7, 5], [5, 6, 7]), ([8, 5], [5, 8]), ([5], [5]), ([10, 5], [5, 10]), ([11, 5], [5, 11]), ([12, 5], [5, 12]), ([13, 5], [5, 13]), ([9, 14, 5], [5, 9, 14]), ([5, 15], [5, 15])])
def rp.B6 : List Nat := [0, 0, 3, 7, 15, 31, 63, 63, 255, 511, 63, 1087, 3135, 7231, 15423, 32767, 65535]
theorem rp.tab6 : rtab .any (opsOf Try.f15 6) = rp.T6 := by kernel_rfl
theorem rp.bits6 : waitsOk rp.T6.2 rp.B6 = true := by kernel_rfl
def rp.T12 : Bool × List (List Nat × List Nat) := (true, [([], []), ([], []), ([0, 1], [0, 1]), ([], []), ([], []), ([3, 4], [3, 4]), ([5], [5]), ([2, 6], [2, 6])])
def rp.B12 : List Nat := [0, 0, 3, 0, 0, 24, 56, 127]
theorem rp.tab12 : rtab .any (opsOf Try.f15 12) = rp.T12 := by kernel_rfl
theorem rp.bits12 : waitsOk rp.T12.2 rp.B12 = true := by kernel_rfl
def rp.T20 : Bool × List (List Nat × List Nat) := (true, [([], []), ([], []), ([], []), ([1, 2], [1, 2]), ([3], [3]), ([], []), ([], []), ([5, 6], [5, 6]), ([7], [7]), ([0, 4, 0, 1, 2, 3, 4, 5, 6, 7, 8], [0, 4]), ([9, 8, 0, 1, 2, 3, 4, 5, 6, 7, 8], [8, 9])])
def rp.B20 : List Nat := [0, 0, 0, 6, 14, 0, 0, 96, 224, 511, 1023]
theorem rp.tab20 : rtab .any (opsOf Try.f15 20) = rp.T20 := by kernel_rfl
theorem rp.bits20 : waitsOk rp.T20.2 rp.B20 = true := by kernel_rfl
set_option maxHeartbeats 16000000 in
set_option maxRecDepth 100000 in
theorem put.calls (gf : Nat) (A : Option Addr) (c : Nat) (V : List S43) (ver : Int) (A1 : Option Addr) (c1 : Nat) (l1 : List Int) (A2 : Option Addr) (c2 : Nat) (l2 : List S43) (R0 R1 : Bool) (RV : List S43) (W w : World) (hst : w.heap[gf]? = some (.cells #[.slice A V.length c, .int .i64 ver] 48 (0, 0))) (hgf : W.heap.size ≤ gf) (hV : Kd.C (kE W) w A V.length V) (hV1 : 1 ≤ V.length) (h64 : V.length ≤ 64) (hB : Below W.heap.size W w) (hr1 : Kd.C (Kd.int .i64) W A1 l1.length l1) (hc1 : l1.length ≤ c1) (hr2 : Kd.C k43 W A2 l2.length l2) (hn : l1.length ≤ 100) (h0 : store_Put.a0 V.length l1 l1.length 0 = R0) (h1 : put.a1 l1 l1.length 0 = R1) (h2 : store_Put.a2 l1 l2 l1.length 0 V = RV) (E : Int) (U : List S43) (hEU : (if l1.length = l2.length then (if R0 = true then (if R1 = true then ((0 : Int), RV) else (16, V)) else (11, V)) else (1, V)) = (E, U)) :
  Calls Try.prog 15 #[.pointer (some ⟨gf, 0, none⟩), .slice A1 l1.length c1, .slice A2 l2.length c2] w (PP W w gf A c V ver E U) := by
 have hu43 := Try.underlying43
 have hu48 := Try.underlying48
 have HS := aM hst
 have HV := aM hV
 have HBW := aM hB
 have HR1 := aM hr1
 have HR2 := aM hr2
 have HC1 := aM hc1
 have HN := aM (show l1.length ≤ 100 ∧ V.length ≤ 64 ∧ 1 ≤ V.length ∧ W.heap.size ≤ gf from ⟨hn, h64, hV1, hgf⟩)
 have A0_ := aM h0
 have A1_ := aM h1
 have A2_ := aM h2
 have EU := aM hEU
 clear hst hV hB hr1 hr2 hc1 hn h64 hV1 hgf h0 h1 h2 hEU
 have HB := aM (Below.refl w.heap.size w)
 by_cases hl : l1.length = l2.length
 rotate_left
 ·have hE := EU.out
  rw [if_neg hl] at hE
  clear EU
  have EU := aM hE
  clear hE
  have b1 : ((l1.length : Int) != (l2.length : Int)) = true := bne_iff_ne.mpr (by omega)
  have b2 : ((l1.length : Int) == (l2.length : Int)) = false := beq_eq_false_iff_ne.mpr (by omega)
  have b3 : (l1.length == l2.length) = false := beq_eq_false_iff_ne.mpr hl
  go_enter Try.func15, Try.ntmps15
  go_wp2
  have hE := EU.out
  cases hE
  go_ret
  exact ⟨pE, Or.inl ⟨by decide, rfl, qB HB⟩⟩
 have hE := EU.out
 rw [if_pos hl] at hE
 clear EU
 have EU := aM hE
 clear hE
 have b1 : ((l1.length : Int) != (l2.length : Int)) = false := bne_eq_false_iff_eq.mpr (by omega)
 have b2 : ((l1.length : Int) == (l2.length : Int)) = true := beq_iff_eq.mpr (by omega)
 have b3 : (l1.length == l2.length) = true := beq_iff_eq.mpr hl
 have HL := aM hl
 clear hl
 go_enter Try.func15, Try.ntmps15
 go_wp2
 clear b1 b2 b3
 go_loopg [18] l1.length (fun kq v18 w' => ∃ (i : Nat), v18 = .int .i64 (i : Int) ∧ Aside0 (i + kq = l1.length) ∧ Aside0 (store_Put.a0 V.length l1 kq i = R0) ∧ Aside0 (Below w.heap.size w w'))
 case atStart => exact ⟨0, rfl, ⟨by omega⟩, A0_, ⟨qB HB⟩⟩
 case round =>
  clear HB
  obtain ⟨i, rfl, HK, HA, HB⟩ := hrel
  cases gk with
  | succ kq =>
   have H := HA.out
   clear HA
   rw [store_Put.a0] at H
   have d1 : decide ((i : Int) < (l1.length : Int)) = true := decide_eq_true (by have := HK.out; omega)
   have d2 : decide (i < l1.length) = true := decide_eq_true (by have := HK.out; omega)
   have p1 : (0 ≤ (i : Int)) = True := eq_true (by omega)
   have q1 : ((i : Int) < (l1.length : Int)) = True := eq_true (by have := HK.out; omega)
   have q2 : (i < l1.length) = True := eq_true (by have := HK.out; omega)
   obtain ⟨ad, ead, hx⟩ := Kd.at_int HR1.out (i : Int) (by omega) (by have := HK.out; omega)
   cases ead
   rw [Int.toNat_natCast] at hx
   have QX := aM ((HBW.out.cell (World.block_lt_of_cell? W _ hx)).trans hx)
   clear hx
   have QS := aM ((blk_cell HS.out 0).trans rfl : w.cell? ⟨gf, 0, none⟩ = some (.slice A V.length c))
   by_cases c1_ : rd l1 (i : Int) < 0
   ·rw [if_pos c1_] at H
    have e1 : decide (rd l1 (i : Int) < 0) = true := decide_eq_true c1_
    subst H
    go_wp2
    replace HB := aM (below_drew1 HB.out)
    have mv : ∀ {a : Addr} {v : Value}, w.cell? a = some v → wr.drew.cell? a = some v := fun h_ => (HB.out.cell (World.block_lt_of_cell? w _ h_)).trans h_
    refine start_ (n := 17) (S := fun w' => w'.cell? (ad.add i) = some (.int .i64 (rd l1 (i : Int))) ∧ w'.cell? ⟨gf, 0, none⟩ = some (.slice A V.length c)) (ds := []) (bm 17 0) (by kernel_rfl) rfl rfl ⟨mv QX.out, mv QS.out⟩ (fun hHeld => ?_); refine with_tabW rp.tab6 rp.bits6 (fun HT_ HW_ => ?_)
    clear mv
    generalize wr.drew = wd at HB hHeld ⊢
    refine pP (i := 0) (N := some 21) (bm 17 1) rfl rfl HT_.out ?_
    refine pP (i := 1) (N := some 22) (bm 17 3) rfl rfl HT_.out ?_
    refine pP (i := 2) (N := some 23) (bm 17 7) rfl rfl HT_.out ?_
    refine pT (i := 3) (N := some 24) (bm 17 15) rfl rfl HT_.out HW_.out hHeld (by rintro w' ⟨s0, s1⟩; go_simp; with_reducible rfl) ?_
    refine pP (i := 4) (N := some 25) (bm 17 31) rfl rfl HT_.out ?_
    refine pP (i := 5) (N := some 26) (bm 17 63) rfl rfl HT_.out ?_
    refine pS (i := 6) (N := some 27) (bm 17 127) rfl rfl HT_.out ?_
    refine pS (i := 7) (N := some 28) (bm 17 255) rfl rfl HT_.out ?_
    refine pS (i := 8) (N := some 29) (bm 17 511) rfl rfl HT_.out ?_
    refine pS (i := 9) (N := some 30) (bm 17 1023) rfl rfl HT_.out ?_
    refine pS (i := 10) (N := some 31) (bm 17 2047) rfl rfl HT_.out ?_
    refine pS (i := 11) (N := some 32) (bm 17 4095) rfl rfl HT_.out ?_
    refine pS (i := 12) (N := some 33) (bm 17 8191) rfl rfl HT_.out ?_
    refine pS (i := 13) (N := some 34) (bm 17 16383) rfl rfl HT_.out ?_
    refine pS (i := 14) (N := some 35) (bm 17 32767) rfl rfl HT_.out ?_
    refine pS (i := 15) (N := some 36) (bm 17 65535) rfl rfl HT_.out ?_
    refine pP (i := 16) (N := some 37) (bm 17 131071) rfl rfl HT_.out ?_
    refine done_ (done_of HT_.out (by kernel_rfl)) ?_
    clear hHeld HT_ HW_
    go_wp2
    go_ret
    have hE := EU.out; simp at hE; obtain ⟨rfl, rfl⟩ := hE; exact ⟨pE, Or.inl ⟨by decide, rfl, qB HB⟩⟩
   rw [if_neg c1_] at H
   have e1 : decide (rd l1 (i : Int) < 0) = false := decide_eq_false c1_
   by_cases c2_ : (V.length : Int) ≤ rd l1 (i : Int)
   ·rw [if_pos c2_] at H
    have e2 : decide (rd l1 (i : Int) ≥ (V.length : Int)) = true := decide_eq_true c2_
    have e3 : decide ((V.length : Int) ≤ rd l1 (i : Int)) = true := decide_eq_true c2_
    subst H
    go_wp2
    replace HB := aM (below_drew1 HB.out)
    have mv : ∀ {a : Addr} {v : Value}, w.cell? a = some v → wr.drew.cell? a = some v := fun h_ => (HB.out.cell (World.block_lt_of_cell? w _ h_)).trans h_
    refine start_ (n := 17) (S := fun w' => w'.cell? (ad.add i) = some (.int .i64 (rd l1 (i : Int))) ∧ w'.cell? ⟨gf, 0, none⟩ = some (.slice A V.length c)) (ds := []) (bm 17 0) (by kernel_rfl) rfl rfl ⟨mv QX.out, mv QS.out⟩ (fun hHeld => ?_); refine with_tabW rp.tab6 rp.bits6 (fun HT_ HW_ => ?_)
    clear mv
    generalize wr.drew = wd at HB hHeld ⊢
    refine pP (i := 0) (N := some 21) (bm 17 1) rfl rfl HT_.out ?_
    refine pP (i := 1) (N := some 22) (bm 17 3) rfl rfl HT_.out ?_
    refine pP (i := 2) (N := some 23) (bm 17 7) rfl rfl HT_.out ?_
    refine pT (i := 3) (N := some 24) (bm 17 15) rfl rfl HT_.out HW_.out hHeld (by rintro w' ⟨s0, s1⟩; go_simp; with_reducible rfl) ?_
    refine pP (i := 4) (N := some 25) (bm 17 31) rfl rfl HT_.out ?_
    refine pP (i := 5) (N := some 26) (bm 17 63) rfl rfl HT_.out ?_
    refine pP (i := 6) (N := some 27) (bm 17 127) rfl rfl HT_.out ?_
    refine pP (i := 7) (N := some 28) (bm 17 255) rfl rfl HT_.out ?_
    refine pP (i := 8) (N := some 29) (bm 17 511) rfl rfl HT_.out ?_
    refine pP (i := 10) (N := some 31) (bm 17 1535) rfl rfl HT_.out ?_
    refine pP (i := 11) (N := some 32) (bm 17 3583) rfl rfl HT_.out ?_
    refine pP (i := 12) (N := some 33) (bm 17 7679) rfl rfl HT_.out ?_
    refine pT (i := 9) (N := some 30) (bm 17 8191) rfl rfl HT_.out HW_.out hHeld (by rintro w' ⟨s0, s1⟩; go_simp; with_reducible rfl) ?_
    refine pT (i := 13) (N := some 34) (bm 17 16383) rfl rfl HT_.out HW_.out hHeld (by rintro w' ⟨s0, s1⟩; go_simp; with_reducible rfl) ?_
    refine pP (i := 14) (N := some 35) (bm 17 32767) rfl rfl HT_.out ?_
    refine pP (i := 15) (N := some 36) (bm 17 65535) rfl rfl HT_.out ?_
    refine pP (i := 16) (N := some 37) (bm 17 131071) rfl rfl HT_.out ?_
    refine done_ (done_of HT_.out (by kernel_rfl)) ?_
    clear hHeld HT_ HW_
    go_wp2
    go_ret
    have hE := EU.out; simp at hE; obtain ⟨rfl, rfl⟩ := hE; exact ⟨pE, Or.inl ⟨by decide, rfl, qB HB⟩⟩
   rw [if_neg c2_] at H
   have e2 : decide (rd l1 (i : Int) ≥ (V.length : Int)) = false := decide_eq_false c2_
   have e3 : decide ((V.length : Int) ≤ rd l1 (i : Int)) = false := decide_eq_false c2_
   have H1 := aM H
   clear H
   go_wp2
   replace HB := aM (below_drew1 HB.out)
   have mv : ∀ {a : Addr} {v : Value}, w.cell? a = some v → wr.drew.cell? a = some v := fun h_ => (HB.out.cell (World.block_lt_of_cell? w _ h_)).trans h_
   refine start_ (n := 17) (S := fun w' => w'.cell? (ad.add i) = some (.int .i64 (rd l1 (i : Int))) ∧ w'.cell? ⟨gf, 0, none⟩ = some (.slice A V.length c)) (ds := []) (bm 17 0) (by kernel_rfl) rfl rfl ⟨mv QX.out, mv QS.out⟩ (fun hHeld => ?_); refine with_tabW rp.tab6 rp.bits6 (fun HT_ HW_ => ?_)
   clear mv
   generalize wr.drew = wd at HB hHeld ⊢
   refine pP (i := 0) (N := some 21) (bm 17 1) rfl rfl HT_.out ?_
   refine pP (i := 1) (N := some 22) (bm 17 3) rfl rfl HT_.out ?_
   refine pP (i := 2) (N := some 23) (bm 17 7) rfl rfl HT_.out ?_
   refine pT (i := 3) (N := some 24) (bm 17 15) rfl rfl HT_.out HW_.out hHeld (by rintro w' ⟨s0, s1⟩; go_simp; with_reducible rfl) ?_
   refine pP (i := 4) (N := some 25) (bm 17 31) rfl rfl HT_.out ?_
   refine pP (i := 5) (N := some 26) (bm 17 63) rfl rfl HT_.out ?_
   refine pP (i := 6) (N := some 27) (bm 17 127) rfl rfl HT_.out ?_
   refine pP (i := 7) (N := some 28) (bm 17 255) rfl rfl HT_.out ?_
   refine pP (i := 8) (N := some 29) (bm 17 511) rfl rfl HT_.out ?_
   refine pP (i := 10) (N := some 31) (bm 17 1535) rfl rfl HT_.out ?_
   refine pP (i := 11) (N := some 32) (bm 17 3583) rfl rfl HT_.out ?_
   refine pP (i := 12) (N := some 33) (bm 17 7679) rfl rfl HT_.out ?_
   refine pT (i := 9) (N := some 30) (bm 17 8191) rfl rfl HT_.out HW_.out hHeld (by rintro w' ⟨s0, s1⟩; go_simp; with_reducible rfl) ?_
   refine pT (i := 13) (N := some 34) (bm 17 16383) rfl rfl HT_.out HW_.out hHeld (by rintro w' ⟨s0, s1⟩; go_simp; with_reducible rfl) ?_
   refine pP (i := 14) (N := some 35) (bm 17 32767) rfl rfl HT_.out ?_
   refine pP (i := 15) (N := some 36) (bm 17 65535) rfl rfl HT_.out ?_
   refine pP (i := 16) (N := some 37) (bm 17 131071) rfl rfl HT_.out ?_
   refine done_ (done_of HT_.out (by kernel_rfl)) ?_
   clear hHeld HT_ HW_
   go_wp2
   go_roundg kq
   case measure => omega
   case rel => exact ⟨i + 1, by first | rfl | (rw [w64o (by have := HK.out; have := HN.out.1; omega) (by have := HK.out; have := HN.out.1; omega)]; rfl), ⟨by have := HK.out; omega⟩, H1, ⟨qB HB⟩⟩
  | zero =>
   have H := HA.out
   rw [store_Put.a0] at H
   subst H
   have hin : i = l1.length := by have := HK.out; omega
   clear HA HK
   subst hin
   have d1 : decide ((l1.length : Int) < (l1.length : Int)) = false := decide_eq_false (by omega)
   have d2 : decide (l1.length < l1.length) = false := decide_eq_false (by omega)
   have ALL := aM (store_Put.a0_all A0_.out)
   go_wp2
   clear d1 d2
   go_loopg [41] l1.length (fun kq v41 w' => ∃ (i : Nat), v41 = .int .i64 (i : Int) ∧ Aside0 (i + kq = l1.length) ∧ Aside0 (put.a1 l1 kq i = R1) ∧ Aside0 (Below w.heap.size w w'))
   case atStart => exact ⟨0, rfl, ⟨by omega⟩, A1_, ⟨qB HB⟩⟩
   case round =>
    clear HB
    obtain ⟨i, rfl, HK, HA, HB⟩ := hrel
    cases gk with
    | succ kq =>
     have H := HA.out
     clear HA
     rw [put.a1] at H
     have d1 : decide ((i : Int) < (l1.length : Int)) = true := decide_eq_true (by have := HK.out; omega)
     have d2 : decide (i < l1.length) = true := decide_eq_true (by have := HK.out; omega)
     have p1 : (0 ≤ (i : Int)) = True := eq_true (by omega)
     have q1 : ((i : Int) < (l1.length : Int)) = True := eq_true (by have := HK.out; omega)
     have q2 : (i < l1.length) = True := eq_true (by have := HK.out; omega)
     have q5 : (i ≤ c1) = True := eq_true (by have := HK.out; have := HC1.out; omega)
     have q6 : ((i : Int) ≤ (c1 : Int)) = True := eq_true (by have := HK.out; have := HC1.out; omega)
     obtain ⟨ad, ead, hx⟩ := Kd.at_int HR1.out (i : Int) (by omega) (by have := HK.out; omega)
     cases ead
     rw [Int.toNat_natCast] at hx
     have QX := aM ((HBW.out.cell (World.block_lt_of_cell? W _ hx)).trans hx)
     clear hx
     obtain ⟨bh, hbh, _⟩ := St.has_f (l := l1.take i) 200 (by have := HN.out; simp; omega) (by have := HN.out; simp; omega) (rd l1 (i : Int))
     have AH := aM hbh
     rw [hbh] at H
     have H1 := aM H
     clear H hbh
     go_wp2
     replace HB := aM (below_drew1 HB.out)
     have mv : ∀ {a : Addr} {v : Value}, w.cell? a = some v → wr.drew.cell? a = some v := fun h_ => (HB.out.cell (World.block_lt_of_cell? w _ h_)).trans h_
     refine start_ (n := 8) (S := fun w' => w'.cell? (ad.add i) = some (.int .i64 (rd l1 (i : Int)))) (ds := []) (bm 8 0) (by kernel_rfl) rfl rfl (mv QX.out) (fun hHeld => ?_); refine with_tabW rp.tab12 rp.bits12 (fun HT_ HW_ => ?_)
     clear mv
     generalize wr.drew = wd at HB hHeld ⊢
     refine pP (i := 0) (N := some 44) (bm 8 1) rfl rfl HT_.out ?_
     refine pP (i := 1) (N := some 45) (bm 8 3) rfl rfl HT_.out ?_
     refine pP (i := 2) (N := some 46) (bm 8 7) rfl rfl HT_.out ?_
     refine pP (i := 3) (N := some 47) (bm 8 15) rfl rfl HT_.out ?_
     refine pP (i := 4) (N := some 48) (bm 8 31) rfl rfl HT_.out ?_
     refine pP (i := 5) (N := some 49) (bm 8 63) rfl rfl HT_.out ?_
     refine pT (i := 6) (N := some 50) (bm 8 127) rfl rfl HT_.out HW_.out hHeld (by rintro w' s0; go_simp; with_reducible rfl) ?_
     refine one_ (i := 7) (N := some 51) (bm 8 255) rfl rfl (one_of HT_.out (by kernel_rfl)) (by decide) (fun K hK => ?_)
     refine goes_ Try.func11 (by kernel_rfl) rfl #[.slice (some ad) i c1, .int .i64 (rd l1 (i : Int))] (by rfl) rfl rfl pA ?_
     with_reducible refine (has (some ad) c1 l1 i (rd l1 (i : Int)) bh _ ?s1 HC1.out ?s2 AH.out).mono ?_
     (case s1 => exact Kd.C_below HR1.out (below_step HBW.out HB.out))
     (case s2 => have := HK.out; omega)
     rintro e w9 ⟨rfl, hb⟩
     refine ⟨_, rfl, ?_⟩
     replace HB := bS (qB HB) hb
     clear hb
     have mv : ∀ {a : Addr} {v : Value}, w.cell? a = some v → w9.cell? a = some v := fun h_ => (HB.out.cell (World.block_lt_of_cell? w _ h_)).trans h_
     refine hK.out _ _ (mv QX.out) (fun hHeld => ?_)
     clear hK K
     refine norm_ (a' := ?_) ?_ ?_
     rotate_left
     ·show Act.put _ (some 51) _ = _
      simp only [Act.put, sP, i64_w, i32_w]
      rfl
     refine done_ (done_of HT_.out (by kernel_rfl)) ?_
     clear hHeld HT_ HW_
     cases bh with
     | true =>
      have H := H1.out
      rw [if_pos rfl] at H
      subst H
      go_wp2
      go_ret
      have hE := EU.out; simp at hE; obtain ⟨rfl, rfl⟩ := hE; exact ⟨pE, Or.inl ⟨by decide, rfl, qB HB⟩⟩
     | false =>
      have H2 := aM (show put.a1 l1 kq (i + 1) = R1 by have H := H1.out; rwa [if_neg (by simp)] at H)
      go_wp2
      go_roundg kq
      case measure => omega
      case rel => exact ⟨i + 1, by first | rfl | (rw [w64o (by have := HK.out; have := HN.out.1; omega) (by have := HK.out; have := HN.out.1; omega)]; rfl), ⟨by have := HK.out; omega⟩, H2, ⟨qB HB⟩⟩
    | zero =>
     have H := HA.out
     rw [put.a1] at H
     subst H
     have hin : i = l1.length := by have := HK.out; omega
     clear HA HK
     subst hin
     have d1 : decide ((l1.length : Int) < (l1.length : Int)) = false := decide_eq_false (by omega)
     have d2 : decide (l1.length < l1.length) = false := decide_eq_false (by omega)
     have hczs := blk2 (blk_below HS.out HB.out)
     go_wp2_with (first | ((with_reducible refine gate_builtin (b := .append) (xs := #[.tmp 53, .tmp 57]) rfl ?_); at_builtin; refine Kd.R_append_rows (kE W) (w0 := w) w.heap.size rfl (.tmp 53) (.tmp 57) 22 43 (.agg #[(.bool false), (.slice none 0 0), (.slice none 0 0), (.int .u64 0), (.int .i64 0)]) 72 rfl Try.underlying22 info43 rfl (by show 0 < 5; decide) (by omega) (.slice none 0 0) [] V A V.length c (fun _ => True) (fun _ => False) rfl rfl ?aO ?aR (fun _ _ h => h) (fun _ h => h.elim) (fun _ _ => trivial) ?aB ?aS ?aL ?_; (case aO => exact Kd.R_nil _ _ _ _ _); (case aR => exact Kd.C_below HV.out (qB HB)); (case aB => exact qB HB); (case aS => exact below_size (qB HB)); (case aL => have := HN.out.2.1; simp; omega); intro v9 w9 ho hb _ _; rw [List.nil_append] at ho; replace HB := aM hb; have HO := aM (R_S ho); clear ho hb hczs))
     obtain ⟨gl, cl, el, hgl, _, _⟩ := Kd.S_form HO.out (by have := HN.out.2.2.1; omega)
     subst el
     clear d1 d2
     have HGL := aM hgl
     clear hgl
     go_loopg [61] l1.length (fun kq v61 w' => ∃ (i : Nat) (U : List S43), v61 = .int .i64 (i : Int) ∧ Aside0 (i + kq = l1.length) ∧ Aside0 (store_Put.a2 l1 l2 kq i U = RV) ∧ Aside0 (U.length = V.length) ∧ Aside0 (Kd.S (kE W) 43 w' w.heap.size (fun _ => True) (.slice (some ⟨gl, 0, none⟩) V.length cl) U) ∧ Aside0 (Below w.heap.size w w'))
     case atStart => exact ⟨0, V, rfl, ⟨by omega⟩, A2_, ⟨rfl⟩, ⟨by first | exact HO.out | ((with_reducible repeat (first | apply Kd.S_alloc | apply Kd.S_drewN | apply Kd.S_drew)); exact HO.out)⟩, ⟨qB HB⟩⟩
     case round =>
      clear HB HO
      obtain ⟨i, U, rfl, HK, HA, HU, HO, HB⟩ := hrel
      cases gk with
      | succ kq =>
       have H1 := aM (show store_Put.a2 l1 l2 kq (i + 1) (U.set (rd l1 (i : Int)).toNat (rd_T43 l2 (i : Int))) = RV from HA.out)
       clear HA
       have d1 : decide ((i : Int) < (l1.length : Int)) = true := decide_eq_true (by have := HK.out; omega)
       have d2 : decide (i < l1.length) = true := decide_eq_true (by have := HK.out; omega)
       have p1 : (0 ≤ (i : Int)) = True := eq_true (by omega)
       have q1 : ((i : Int) < (l1.length : Int)) = True := eq_true (by have := HK.out; omega)
       have q2 : (i < l1.length) = True := eq_true (by have := HK.out; omega)
       have q3 : ((i : Int) < (l2.length : Int)) = True := eq_true (by have := HK.out; have := HL.out; omega)
       have q3n : (i < l2.length) = True := eq_true (by have := HK.out; have := HL.out; omega)
       obtain ⟨g0, g1⟩ := ALL.out i (by omega) (by have := HK.out; omega)
       have p2 : (0 ≤ rd l1 (i : Int)) = True := eq_true g0
       have q4 : (rd l1 (i : Int) < (V.length : Int)) = True := eq_true g1
       obtain ⟨ad, ead, hx⟩ := Kd.at_int HR1.out (i : Int) (by omega) (by have := HK.out; omega)
       cases ead
       rw [Int.toNat_natCast] at hx
       have QX := aM ((HBW.out.cell (World.block_lt_of_cell? W _ hx)).trans hx)
       clear hx
       obtain ⟨ad2, B1, b1, B2, b2, ead2, hy0, hy1, hy2, hy3, hy4, hl1, hi1, hl2, hi2_⟩ := at_T43 HR2.out (i : Int) (by omega) (by have := HK.out; have := HL.out; omega)
       cases ead2
       have HYK := aM (k43_mk W (rd_T43 l2 (i : Int)) hl1 hi1 hl2 hi2_)
       have mw : ∀ {a : Addr} {v : Value}, W.cell? a = some v → w.cell? a = some v := fun h_ => (HBW.out.cell (World.block_lt_of_cell? W _ h_)).trans h_
       have HY := aM (And.intro (mw hy0) (And.intro (mw hy1) (And.intro (mw hy2) (And.intro (mw hy3) (mw hy4)))))
       clear hy0 hy1 hy2 hy3 hy4 hl1 hi1 hl2 hi2_ mw
       go_wp2
       replace HB := aM (below_drew1 HB.out)
       replace HO := aM (Kd.S_drew HO.out)
       have mv : ∀ {a : Addr} {v : Value}, w.cell? a = some v → wr.drew.cell? a = some v := fun h_ => (HB.out.cell (World.block_lt_of_cell? w _ h_)).trans h_
       refine start_ (n := 11) (S := fun w' => w'.cell? (ad.add i) = some (.int .i64 (rd l1 (i : Int))) ∧ w'.cell? (ad2.add (i * 5)) = some (.bool ((rd_T43 l2 (i : Int)).f0.f0)) ∧ w'.cell? ⟨(ad2.add (i * 5)).block, (ad2.add (i * 5)).off + 1, none⟩ = some (.slice B1 ((rd_T43 l2 (i : Int)).f0.f1).length b1) ∧ w'.cell? ⟨(ad2.add (i * 5)).block, (ad2.add (i * 5)).off + 2, none⟩ = some (.slice B2 ((rd_T43 l2 (i : Int)).f0.f2).length b2) ∧ w'.cell? ⟨(ad2.add (i * 5)).block, (ad2.add (i * 5)).off + 3, none⟩ = some (.int .u64 ((rd_T43 l2 (i : Int)).f1)) ∧ w'.cell? ⟨(ad2.add (i * 5)).block, (ad2.add (i * 5)).off + 4, none⟩ = some (.int .i64 ((rd_T43 l2 (i : Int)).f2))) (ds := []) (bm 11 0) (by kernel_rfl) rfl rfl ⟨mv QX.out, mv HY.out.1, mv HY.out.2.1, mv HY.out.2.2.1, mv HY.out.2.2.2.1, mv HY.out.2.2.2.2⟩ (fun hHeld => ?_); refine with_tabW rp.tab20 rp.bits20 (fun HT_ HW_ => ?_)
       clear mv
       generalize wr.drew = we at HB HO hHeld ⊢
       refine pP (i := 0) (N := some 64) (bm 11 1) rfl rfl HT_.out ?_
       refine pP (i := 1) (N := some 65) (bm 11 3) rfl rfl HT_.out ?_
       refine pP (i := 2) (N := some 66) (bm 11 7) rfl rfl HT_.out ?_
       refine pP (i := 3) (N := some 67) (bm 11 15) rfl rfl HT_.out ?_
       refine pP (i := 5) (N := some 69) (bm 11 47) rfl rfl HT_.out ?_
       refine pP (i := 6) (N := some 70) (bm 11 111) rfl rfl HT_.out ?_
       refine pP (i := 7) (N := some 71) (bm 11 239) rfl rfl HT_.out ?_
       refine pT (i := 4) (N := some 68) (bm 11 255) rfl rfl HT_.out HW_.out hHeld (by rintro w' ⟨s0, s1, s2, s3, s4, s5⟩; go_simp; with_reducible rfl) ?_
       refine pT (i := 8) (N := some 72) (bm 11 511) rfl rfl HT_.out HW_.out hHeld (by rintro w' ⟨s0, s1, s2, s3, s4, s5⟩; go_simp; with_reducible rfl) ?_
       refine pP (i := 9) (N := some 73) (bm 11 1023) rfl rfl HT_.out ?_
       refine one_ (i := 10) (N := none) (bm 11 2047) rfl rfl (one_of HT_.out (by kernel_rfl)) (by decide) (fun K hK => ?_)
       obtain ⟨oki, cc, hcl, hM0, hcc, hfr, hoki, hH⟩ := Kd.S_elem HO.out z43 (rd l1 (i : Int)) g0 g1
       obtain ⟨t0, t1, t2, t3, t4, rfl⟩ : ∃ t0 t1 t2 t3 t4, cc = [t0, t1, t2, t3, t4] := by
        match cc, hcl with
        | [t0, t1, t2, t3, t4], _ => exact ⟨t0, t1, t2, t3, t4, rfl⟩
       have hs0 : we.cell? ⟨gl, (rd l1 (i : Int)).toNat * 5, none⟩ = some t0 := hcc 0 _ rfl
       have hs1 : we.cell? ⟨gl, (rd l1 (i : Int)).toNat * 5 + 1, none⟩ = some t1 := hcc 1 _ rfl
       have hs2 : we.cell? ⟨gl, (rd l1 (i : Int)).toNat * 5 + 2, none⟩ = some t2 := hcc 2 _ rfl
       have hs3 : we.cell? ⟨gl, (rd l1 (i : Int)).toNat * 5 + 3, none⟩ = some t3 := hcc 3 _ rfl
       have hs4 : we.cell? ⟨gl, (rd l1 (i : Int)).toNat * 5 + 4, none⟩ = some t4 := hcc 4 _ rfl
       have hf0 : we.frozen? ⟨gl, (rd l1 (i : Int)).toNat * 5, none⟩ = false := hfr 0
       have hf1 : we.frozen? ⟨gl, (rd l1 (i : Int)).toNat * 5 + 1, none⟩ = false := hfr 1
       have hf2 : we.frozen? ⟨gl, (rd l1 (i : Int)).toNat * 5 + 2, none⟩ = false := hfr 2
       have hf3 : we.frozen? ⟨gl, (rd l1 (i : Int)).toNat * 5 + 3, none⟩ = false := hfr 3
       have hf4 : we.frozen? ⟨gl, (rd l1 (i : Int)).toNat * 5 + 4, none⟩ = false := hfr 4
       have SEG := aM (Kd.S_seg (ok := fun _ => True) (okg := fun _ => False) (Kd.H_mono hH (fun _ _ => ⟨trivial, id⟩)) g0 g1 (seg := [.bool ((rd_T43 l2 (i : Int)).f0.f0), .slice B1 ((rd_T43 l2 (i : Int)).f0.f1).length b1, .slice B2 ((rd_T43 l2 (i : Int)).f0.f2).length b2, .int .u64 ((rd_T43 l2 (i : Int)).f1), .int .i64 ((rd_T43 l2 (i : Int)).f2)]) (j := 0) (by exact Nat.le_refl 5) (x' := (rd_T43 l2 (i : Int))) (kEM HYK.out) (fun _ h_ => Or.inr h_) (fun _ h_ => h_.elim))
       refine skip_ (w1 := ?_) (by rfl) rfl ?_ ?_
       rotate_left
       ·go_simp
        rfl
       suffices h_ : K _ (we.setCells gl ((rd l1 (i : Int)).toNat * (kE W).sz + 0) [.bool ((rd_T43 l2 (i : Int)).f0.f0), .slice B1 ((rd_T43 l2 (i : Int)).f0.f1).length b1, .slice B2 ((rd_T43 l2 (i : Int)).f0.f2).length b2, .int .u64 ((rd_T43 l2 (i : Int)).f1), .int .i64 ((rd_T43 l2 (i : Int)).f2)]) from h_
       clear hs0 hs1 hs2 hs3 hs4 hf0 hf1 hf2 hf3 hf4 hcc hfr hH hM0 hoki hcl HO hHeld
       generalize we.setCells gl ((rd l1 (i : Int)).toNat * (kE W).sz + 0) [.bool ((rd_T43 l2 (i : Int)).f0.f0), .slice B1 ((rd_T43 l2 (i : Int)).f0.f1).length b1, .slice B2 ((rd_T43 l2 (i : Int)).f0.f2).length b2, .int .u64 ((rd_T43 l2 (i : Int)).f1), .int .i64 ((rd_T43 l2 (i : Int)).f2)] = w13 at SEG ⊢
       obtain ⟨s1, s2⟩ := SEG.out
       clear SEG
       replace HB := aM (HB.out.grown s2 (below_size HB.out) (fun k e_ => by cases e_; exact HGL.out))
       have HO := aM s1
       clear s1 s2
       have mv : ∀ {a : Addr} {v : Value}, w.cell? a = some v → w13.cell? a = some v := fun h_ => (HB.out.cell (World.block_lt_of_cell? w _ h_)).trans h_
       refine hK.out _ _ ⟨mv QX.out, mv HY.out.1, mv HY.out.2.1, mv HY.out.2.2.1, mv HY.out.2.2.2.1, mv HY.out.2.2.2.2⟩ (fun hHeld => ?_)
       clear hK K
       refine done_ (done_of HT_.out (by kernel_rfl)) ?_
       clear hHeld HT_ HW_
       try go_wp2
       go_roundg kq
       case measure => omega
       case rel => exact ⟨i + 1, _, by first | rfl | (rw [w64o (by have := HK.out; have := HN.out.1; omega) (by have := HK.out; have := HN.out.1; omega)]; rfl), ⟨by have := HK.out; omega⟩, H1, ⟨by rw [List.length_set]; exact HU.out⟩, ⟨by first | exact HO.out | ((with_reducible repeat (first | apply Kd.S_alloc | apply Kd.S_drewN | apply Kd.S_drew)); exact HO.out)⟩, ⟨qB HB⟩⟩
      | zero =>
       have H := HA.out
       rw [store_Put.a2] at H
       subst H
       have hin : i = l1.length := by have := HK.out; omega
       clear HA HK
       subst hin
       have d1 : decide ((l1.length : Int) < (l1.length : Int)) = false := decide_eq_false (by omega)
       have d2 : decide (l1.length < l1.length) = false := decide_eq_false (by omega)
       have hczs := blk2 (blk_below HS.out HB.out)
       go_wp2
       go_ret
       have hE := EU.out
       simp at hE
       obtain ⟨rfl, rfl⟩ := hE
       exact ⟨pE, Or.inr ⟨rfl, some ⟨gl, 0, none⟩, cl, blk_put (blk_put (blk_below HS.out HB.out) 0 _ rfl) 1 _ rfl, Kd.S_mono (Kd.S_far (Kd.S_far (Kd.S_mono (Kd.S_bound HO.out) (ok' := fun k => w.heap.size ≤ k) (fun _ h_ => h_.2.1)) (p := ⟨gf, 0, none⟩) (fun k h_ => by have := blk_lt HS.out; exact fun e_ => by subst e_; exact absurd h_ (by omega)) _) (p := ⟨gf, 1, none⟩) (fun k h_ => by have := blk_lt HS.out; exact fun e_ => by subst e_; exact absurd h_ (by omega)) _) (fun _ _ => trivial), below_set (below_set (below_step HBW.out HB.out) HN.out.2.2.2) HN.out.2.2.2, by rw [World.size_setCell, World.size_setCell]; exact below_size HB.out, fun k a_ b_ => (Below.heap_setCell _ ⟨gf, 1, none⟩ _ k b_).trans ((Below.heap_setCell _ ⟨gf, 0, none⟩ _ k b_).trans (HB.out.block k a_))⟩⟩
end Rf
end Go.Proofs.Ytekmchjlnekliaa.Q
