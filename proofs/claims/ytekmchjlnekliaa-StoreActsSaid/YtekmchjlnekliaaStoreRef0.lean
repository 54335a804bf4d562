/- The reference's Get and Put. -/
import Derived.Test.YtekmchjlnekliaaQxfBankCopied
import Derived.Test.YtekmchjlnekliaaQxfBankCopy
import Derived.Test.YtekmchjlnekliaaQxfLaw24Many
import Derived.Test.YtekmchjlnekliaaQxfPlainLong
import Derived.Test.YtekmchjlnekliaaQxfPlainWide
import Derived.Test.YtekmchjlnekliaaQxfRef07Same
import Derived.Test.YtekmchjlnekliaaQxfRef07Words
import Derived.Test.YtekmchjlnekliaaQxfRef18All
import Derived.Test.YtekmchjlnekliaaQxfRef18Same
import Derived.Test.YtekmchjlnekliaaQxfRef19Has
import Derived.Test.YtekmchjlnekliaaQxfStoreCopies
import Derived.Test.YtekmchjlnekliaaStoreNew
import Derived.Test.YtekmchjlnekliaaStoreGet
import Derived.Test.YtekmchjlnekliaaStorePut
import Derived.Test.YtekmchjlnekliaaStoreNil
namespace Go.Proofs.Ytekmchjlnekliaa.Q
open Go.RowKit Go.Proofs.YtekmchjlnekliaaW.PrintWords Go.Proofs.YtekmchjlnekliaaW.PrintLast Go.Proofs.YtekmchjlnekliaaW.PrintMore
attribute [local go_sem] max2_int min2_int max_two min_two max_three min_three max_four min_four
set_option linter.unusedVariables false
set_option linter.unusedSimpArgs false
namespace Rf
/-- The reference's Get. -/
def get.g (V : List S43) (l1 : List Int) : Nat → Nat → List S43 → List S43 × Int
 | 0, _, o => (o, 0)
 | q + 1, i, o => if rd l1 (i : Int) < 0 then ([], 11) else if (V.length : Int) ≤ rd l1 (i : Int) then ([], 11) else get.g V l1 q (i + 1) (o ++ [rd_T43 V (rd l1 (i : Int))])
theorem pS {P : Program} {ops : Array Oper} {Q : Exit → Act → World → Prop} {md : Region.Mode} {S : World → Prop} {ds : List Nat} {T : Bool × List (List Nat × List Nat)} {i : Nat} {N : Option Tmp} {oi : Oper} {fuel : Nat} {l : Array Bool} {a a' : Act} {w : World} (l' : Array Bool) (hi : ops[i]? = some oi) (hN : oi.dst = N) (hT : rtab md ops = T) (h : wpAnyLast P md ops Q S ds fuel l' a' w) (hc : anyT T l.toList l'.toList i = true := by kernel_rfl) (hQ : ∀ c a w, Q (.panic c) (a.put oi.dst undef) w → Q (.panic c) a w := by exact fun _ _ _ h => h)
  (hy : Region.wanted oi (yielded ops a.tmps) = false := by rfl) (ha : a.put N undef = a' := by simp only [Act.put, List.setIfInBounds_toArray, List.set_cons_zero, List.set_cons_succ, i64_w, i32_w]; rfl) : wpAnyLast P md ops Q S ds (fuel + 1) l a w := pure_ l' hi hN (any_of hT hc) hQ (Or.inr ⟨hy, rfl⟩) ha h
theorem kEM {W w : World} {base : Nat} {ok : Nat → Prop} {x : S43} {cs : List Value} (h : k43.K W x cs) : (kE W).M w base ok x cs := h
def rg.T5 : Bool × List (List Nat × List Nat) := (true, [([], []), ([], []), ([0, 1], [0, 1]), ([2], [2]), ([3], [3]), ([4], [4]), ([5], [5]), ([5], [5]), ([6, 7, 5], [5, 6, 7]), ([8, 5], [5, 8]), ([5], [5]), ([10, 5], [5, 10]), ([11, 5], [5, 11]), ([12, 5], [5, 12]), ([13, 5], [5, 13]), ([9, 14, 5], [5, 9, 14]), ([5, 15], [5, 15])])
def rg.B5 : List Nat := [0, 0, 3, 7, 15, 31, 63, 63, 255, 511, 63, 1087, 3135, 7231, 15423, 32767, 65535]
theorem rg.tab5 : rtab .any (opsOf Try.f16 5) = rg.T5 := by kernel_rfl
theorem rg.bits5 : waitsOk rg.T5.2 rg.B5 = true := by kernel_rfl
def rg.T7 : Bool × List (List Nat × List Nat) := (true, [([], []), ([], []), ([1], [1]), ([2], [2]), ([3], [3]), ([], []), ([], []), ([5, 6], [5, 6]), ([7], [7]), ([4, 8], [4, 8]), ([9], [9]), ([10], [10]), ([0, 11], [0, 11]), ([12, 12, 0, 1, 2, 3, 4, 5, 6, 7, 8, 9, 10, 11, 12], [0, 12])])
def rg.B7 : List Nat := [0, 0, 2, 6, 14, 0, 0, 96, 224, 510, 1022, 2046, 4095, 8191]
theorem rg.tab7 : rtab .any (opsOf Try.f16 7) = rg.T7 := by kernel_rfl
theorem rg.bits7 : waitsOk rg.T7.2 rg.B7 = true := by kernel_rfl
set_option maxHeartbeats 8000000 in
set_option maxRecDepth 100000 in
theorem get.calls (gr : Nat) (A : Option Addr) (c : Nat) (V : List S43) (ver : Int) (A1 : Option Addr) (c1 : Nat) (l1 : List Int) (r1 : List S43) (r2 : Int) (W w : World) (hst : w.heap[gr]? = some (.cells #[.slice A V.length c, .int .i64 ver] 48 (0, 0))) (hV : Kd.C (kE W) w A V.length V) (hr1 : Kd.C (Kd.int .i64) w A1 l1.length l1) (hn : l1.length ≤ 1000000) (h : get.g V l1 l1.length 0 [] = (r1, r2)) :
  Calls Try.prog 16 #[.pointer (some ⟨gr, 0, none⟩), .slice A1 l1.length c1] w fun e w' => ∃ v0 : Value, e = .returned (.tuple #[v0, .int .i64 r2]) ∧ Kd.R (kE W) 43 w' w.heap.size (fun _ => True) v0 r1 ∧ Below w.heap.size w w' := by
 have hu43 := Try.underlying43
 have HS := aM hst
 have HV := aM hV
 have HR1 := aM hr1
 have HN := aM hn
 have H0 := aM h
 clear hst hV hr1 hn h
 have HB := aM (Below.refl w.heap.size w)
 go_enter Try.func16, Try.ntmps16
 go_wp2
 go_loopg [6, 10] l1.length (fun kq v6 v10 w' => ∃ (i : Nat) (o : List S43), v10 = .int .i64 (i : Int) ∧ Aside0 (i + kq = l1.length) ∧ Aside0 (get.g V l1 kq i o = (r1, r2)) ∧ Aside0 (o.length = i) ∧ Aside0 (Kd.R (kE W) 43 w' w.heap.size (fun _ => True) v6 o) ∧ Aside0 (Below w.heap.size w w'))
 case atStart => exact ⟨0, [], rfl, ⟨by omega⟩, H0, ⟨rfl⟩, ⟨Kd.R_nil _ _ _ _ _⟩, ⟨qB HB⟩⟩
 case round =>
  clear H0 HB
  obtain ⟨i, o, rfl, HK, HA, HL, HO, HB⟩ := hrel
  cases gk with
  | succ kq =>
   have H := HA.out
   clear HA
   rw [get.g] at H
   have d1 : decide ((i : Int) < (l1.length : Int)) = true := decide_eq_true (by have := HK.out; omega)
   have d2 : decide (i < l1.length) = true := decide_eq_true (by have := HK.out; omega)
   have p1 : (0 ≤ (i : Int)) = True := eq_true (by omega)
   have q1 : ((i : Int) < (l1.length : Int)) = True := eq_true (by have := HK.out; omega)
   have q2 : (i < l1.length) = True := eq_true (by have := HK.out; omega)
   obtain ⟨ad, ead, hx⟩ := Kd.at_int HR1.out (i : Int) (by omega) (by have := HK.out; omega)
   cases ead
   rw [Int.toNat_natCast] at hx
   have QX := aM hx
   have QS := aM ((blk_cell HS.out 0).trans rfl : w.cell? ⟨gr, 0, none⟩ = some (.slice A V.length c))
   clear hx
   by_cases c1_ : rd l1 (i : Int) < 0
   ·rw [if_pos c1_] at H
    have e1 : decide (rd l1 (i : Int) < 0) = true := decide_eq_true c1_
    obtain ⟨rfl, rfl⟩ := Prod.mk.inj H
    go_wp2
    replace HB := aM (below_drew1 HB.out)
    replace HO := aM (Kd.R_drew HO.out)
    have mv : ∀ {a : Addr} {v : Value}, w.cell? a = some v → wr.drew.cell? a = some v := fun h_ => (HB.out.cell (World.block_lt_of_cell? w _ h_)).trans h_
    refine start_ (n := 17) (S := fun w' => w'.cell? (ad.add i) = some (.int .i64 (rd l1 (i : Int))) ∧ w'.cell? ⟨gr, 0, none⟩ = some (.slice A V.length c)) (ds := []) (bm 17 0) (by kernel_rfl) rfl rfl ⟨mv QX.out, mv QS.out⟩ (fun hHeld => ?_); refine with_tabW rg.tab5 rg.bits5 (fun HT_ HW_ => ?_)
    clear mv
    generalize wr.drew = wd at HB HO hHeld ⊢
    refine pP (i := 0) (N := some 13) (bm 17 1) rfl rfl HT_.out ?_
    refine pP (i := 1) (N := some 14) (bm 17 3) rfl rfl HT_.out ?_
    refine pP (i := 2) (N := some 15) (bm 17 7) rfl rfl HT_.out ?_
    refine pT (i := 3) (N := some 16) (bm 17 15) rfl rfl HT_.out HW_.out hHeld (by rintro w' ⟨s0, s1⟩; go_simp; with_reducible rfl) ?_
    refine pP (i := 4) (N := some 17) (bm 17 31) rfl rfl HT_.out ?_
    refine pP (i := 5) (N := some 18) (bm 17 63) rfl rfl HT_.out ?_
    refine pS (i := 6) (N := some 19) (bm 17 127) rfl rfl HT_.out ?_
    refine pS (i := 7) (N := some 20) (bm 17 255) rfl rfl HT_.out ?_
    refine pS (i := 8) (N := some 21) (bm 17 511) rfl rfl HT_.out ?_
    refine pS (i := 9) (N := some 22) (bm 17 1023) rfl rfl HT_.out ?_
    refine pS (i := 10) (N := some 23) (bm 17 2047) rfl rfl HT_.out ?_
    refine pS (i := 11) (N := some 24) (bm 17 4095) rfl rfl HT_.out ?_
    refine pS (i := 12) (N := some 25) (bm 17 8191) rfl rfl HT_.out ?_
    refine pS (i := 13) (N := some 26) (bm 17 16383) rfl rfl HT_.out ?_
    refine pS (i := 14) (N := some 27) (bm 17 32767) rfl rfl HT_.out ?_
    refine pS (i := 15) (N := some 28) (bm 17 65535) rfl rfl HT_.out ?_
    refine pP (i := 16) (N := some 29) (bm 17 131071) rfl rfl HT_.out ?_
    refine done_ (done_of HT_.out (by kernel_rfl)) ?_
    clear hHeld HT_ HW_
    go_wp2
    go_ret2
    exact ⟨_, pE, Kd.R_nil _ _ _ _ _, qB HB⟩
   rw [if_neg c1_] at H
   have e1 : decide (rd l1 (i : Int) < 0) = false := decide_eq_false c1_
   by_cases c2_ : (V.length : Int) ≤ rd l1 (i : Int)
   ·rw [if_pos c2_] at H
    have e2 : decide (rd l1 (i : Int) ≥ (V.length : Int)) = true := decide_eq_true c2_
    have e3 : decide ((V.length : Int) ≤ rd l1 (i : Int)) = true := decide_eq_true c2_
    obtain ⟨rfl, rfl⟩ := Prod.mk.inj H
    go_wp2
    replace HB := aM (below_drew1 HB.out)
    replace HO := aM (Kd.R_drew HO.out)
    have mv : ∀ {a : Addr} {v : Value}, w.cell? a = some v → wr.drew.cell? a = some v := fun h_ => (HB.out.cell (World.block_lt_of_cell? w _ h_)).trans h_
    refine start_ (n := 17) (S := fun w' => w'.cell? (ad.add i) = some (.int .i64 (rd l1 (i : Int))) ∧ w'.cell? ⟨gr, 0, none⟩ = some (.slice A V.length c)) (ds := []) (bm 17 0) (by kernel_rfl) rfl rfl ⟨mv QX.out, mv QS.out⟩ (fun hHeld => ?_); refine with_tabW rg.tab5 rg.bits5 (fun HT_ HW_ => ?_)
    clear mv
    generalize wr.drew = wd at HB HO hHeld ⊢
    refine pP (i := 0) (N := some 13) (bm 17 1) rfl rfl HT_.out ?_
    refine pP (i := 1) (N := some 14) (bm 17 3) rfl rfl HT_.out ?_
    refine pP (i := 2) (N := some 15) (bm 17 7) rfl rfl HT_.out ?_
    refine pT (i := 3) (N := some 16) (bm 17 15) rfl rfl HT_.out HW_.out hHeld (by rintro w' ⟨s0, s1⟩; go_simp; with_reducible rfl) ?_
    refine pP (i := 4) (N := some 17) (bm 17 31) rfl rfl HT_.out ?_
    refine pP (i := 5) (N := some 18) (bm 17 63) rfl rfl HT_.out ?_
    refine pP (i := 6) (N := some 19) (bm 17 127) rfl rfl HT_.out ?_
    refine pP (i := 7) (N := some 20) (bm 17 255) rfl rfl HT_.out ?_
    refine pP (i := 8) (N := some 21) (bm 17 511) rfl rfl HT_.out ?_
    refine pP (i := 10) (N := some 23) (bm 17 1535) rfl rfl HT_.out ?_
    refine pP (i := 11) (N := some 24) (bm 17 3583) rfl rfl HT_.out ?_
    refine pP (i := 12) (N := some 25) (bm 17 7679) rfl rfl HT_.out ?_
    refine pT (i := 9) (N := some 22) (bm 17 8191) rfl rfl HT_.out HW_.out hHeld (by rintro w' ⟨s0, s1⟩; go_simp; with_reducible rfl) ?_
    refine pT (i := 13) (N := some 26) (bm 17 16383) rfl rfl HT_.out HW_.out hHeld (by rintro w' ⟨s0, s1⟩; go_simp; with_reducible rfl) ?_
    refine pP (i := 14) (N := some 27) (bm 17 32767) rfl rfl HT_.out ?_
    refine pP (i := 15) (N := some 28) (bm 17 65535) rfl rfl HT_.out ?_
    refine pP (i := 16) (N := some 29) (bm 17 131071) rfl rfl HT_.out ?_
    refine done_ (done_of HT_.out (by kernel_rfl)) ?_
    clear hHeld HT_ HW_
    go_wp2
    go_ret2
    exact ⟨_, pE, Kd.R_nil _ _ _ _ _, qB HB⟩
   rw [if_neg c2_] at H
   have e2 : decide (rd l1 (i : Int) ≥ (V.length : Int)) = false := decide_eq_false c2_
   have e3 : decide ((V.length : Int) ≤ rd l1 (i : Int)) = false := decide_eq_false c2_
   have H1 := aM H
   clear H
   go_wp2
   replace HB := aM (below_drew1 HB.out)
   replace HO := aM (Kd.R_drew HO.out)
   have mv : ∀ {a : Addr} {v : Value}, w.cell? a = some v → wr.drew.cell? a = some v := fun h_ => (HB.out.cell (World.block_lt_of_cell? w _ h_)).trans h_
   refine start_ (n := 17) (S := fun w' => w'.cell? (ad.add i) = some (.int .i64 (rd l1 (i : Int))) ∧ w'.cell? ⟨gr, 0, none⟩ = some (.slice A V.length c)) (ds := []) (bm 17 0) (by kernel_rfl) rfl rfl ⟨mv QX.out, mv QS.out⟩ (fun hHeld => ?_); refine with_tabW rg.tab5 rg.bits5 (fun HT_ HW_ => ?_)
   clear mv
   generalize wr.drew = wd at HB HO hHeld ⊢
   refine pP (i := 0) (N := some 13) (bm 17 1) rfl rfl HT_.out ?_
   refine pP (i := 1) (N := some 14) (bm 17 3) rfl rfl HT_.out ?_
   refine pP (i := 2) (N := some 15) (bm 17 7) rfl rfl HT_.out ?_
   refine pT (i := 3) (N := some 16) (bm 17 15) rfl rfl HT_.out HW_.out hHeld (by rintro w' ⟨s0, s1⟩; go_simp; with_reducible rfl) ?_
   refine pP (i := 4) (N := some 17) (bm 17 31) rfl rfl HT_.out ?_
   refine pP (i := 5) (N := some 18) (bm 17 63) rfl rfl HT_.out ?_
   refine pP (i := 6) (N := some 19) (bm 17 127) rfl rfl HT_.out ?_
   refine pP (i := 7) (N := some 20) (bm 17 255) rfl rfl HT_.out ?_
   refine pP (i := 8) (N := some 21) (bm 17 511) rfl rfl HT_.out ?_
   refine pP (i := 10) (N := some 23) (bm 17 1535) rfl rfl HT_.out ?_
   refine pP (i := 11) (N := some 24) (bm 17 3583) rfl rfl HT_.out ?_
   refine pP (i := 12) (N := some 25) (bm 17 7679) rfl rfl HT_.out ?_
   refine pT (i := 9) (N := some 22) (bm 17 8191) rfl rfl HT_.out HW_.out hHeld (by rintro w' ⟨s0, s1⟩; go_simp; with_reducible rfl) ?_
   refine pT (i := 13) (N := some 26) (bm 17 16383) rfl rfl HT_.out HW_.out hHeld (by rintro w' ⟨s0, s1⟩; go_simp; with_reducible rfl) ?_
   refine pP (i := 14) (N := some 27) (bm 17 32767) rfl rfl HT_.out ?_
   refine pP (i := 15) (N := some 28) (bm 17 65535) rfl rfl HT_.out ?_
   refine pP (i := 16) (N := some 29) (bm 17 131071) rfl rfl HT_.out ?_
   refine done_ (done_of HT_.out (by kernel_rfl)) ?_
   clear hHeld HT_ HW_
   obtain ⟨ad2, B1, b1, B2, b2, ead2, hy0, hy1, hy2, hy3, hy4, hyK⟩ := at_E HV.out (rd l1 (i : Int)) (by omega) (by omega)
   cases ead2
   have HY := aM (And.intro hy0 (And.intro hy1 (And.intro hy2 (And.intro hy3 hy4))))
   have HYK := aM hyK
   clear hy0 hy1 hy2 hy3 hy4 hyK
   have q3 : (0 ≤ rd l1 (i : Int)) = True := eq_true (by omega)
   have q4 : (rd l1 (i : Int) < (V.length : Int)) = True := eq_true (by omega)
   clear c1_ c2_ e1 e2 e3
   go_wp2
   replace HB := aM (below_drew1 HB.out)
   replace HO := aM (Kd.R_drew HO.out)
   have mv : ∀ {a : Addr} {v : Value}, w.cell? a = some v → wd.drew.cell? a = some v := fun h_ => (HB.out.cell (World.block_lt_of_cell? w _ h_)).trans h_
   refine start_ (n := 14) (S := fun w' => w'.cell? (ad.add i) = some (.int .i64 (rd l1 (i : Int))) ∧ w'.cell? ⟨gr, 0, none⟩ = some (.slice (some ad2) V.length c) ∧ w'.cell? (ad2.add ((rd l1 (i : Int)).toNat * 5)) = some (.bool ((rd_T43 V (rd l1 (i : Int))).f0.f0)) ∧ w'.cell? ⟨(ad2.add ((rd l1 (i : Int)).toNat * 5)).block, (ad2.add ((rd l1 (i : Int)).toNat * 5)).off + 1, none⟩ = some (.slice B1 ((rd_T43 V (rd l1 (i : Int))).f0.f1).length b1) ∧ w'.cell? ⟨(ad2.add ((rd l1 (i : Int)).toNat * 5)).block, (ad2.add ((rd l1 (i : Int)).toNat * 5)).off + 2, none⟩ = some (.slice B2 ((rd_T43 V (rd l1 (i : Int))).f0.f2).length b2) ∧ w'.cell? ⟨(ad2.add ((rd l1 (i : Int)).toNat * 5)).block, (ad2.add ((rd l1 (i : Int)).toNat * 5)).off + 3, none⟩ = some (.int .u64 ((rd_T43 V (rd l1 (i : Int))).f1)) ∧ w'.cell? ⟨(ad2.add ((rd l1 (i : Int)).toNat * 5)).block, (ad2.add ((rd l1 (i : Int)).toNat * 5)).off + 4, none⟩ = some (.int .i64 ((rd_T43 V (rd l1 (i : Int))).f2))) (ds := []) (bm 14 0) (by kernel_rfl) rfl rfl ⟨mv QX.out, mv QS.out, mv HY.out.1, mv HY.out.2.1, mv HY.out.2.2.1, mv HY.out.2.2.2.1, mv HY.out.2.2.2.2⟩ (fun hHeld => ?_); refine with_tabW rg.tab7 rg.bits7 (fun HT_ HW_ => ?_)
   clear mv
   generalize wd.drew = we at HB HO hHeld ⊢
   refine pP (i := 0) (N := some 30) (bm 14 1) rfl rfl HT_.out ?_
   refine pP (i := 1) (N := some 31) (bm 14 3) rfl rfl HT_.out ?_
   refine pP (i := 2) (N := some 32) (bm 14 7) rfl rfl HT_.out ?_
   refine pP (i := 3) (N := some 33) (bm 14 15) rfl rfl HT_.out ?_
   refine pP (i := 5) (N := some 35) (bm 14 47) rfl rfl HT_.out ?_
   refine pP (i := 6) (N := some 36) (bm 14 111) rfl rfl HT_.out ?_
   refine pP (i := 7) (N := some 37) (bm 14 239) rfl rfl HT_.out ?_
   refine pT (i := 4) (N := some 34) (bm 14 255) rfl rfl HT_.out HW_.out hHeld (by rintro w' ⟨s0, s1, s2, s3, s4, s5, s6⟩; go_simp; with_reducible rfl) ?_
   refine pT (i := 8) (N := some 38) (bm 14 511) rfl rfl HT_.out HW_.out hHeld (by rintro w' ⟨s0, s1, s2, s3, s4, s5, s6⟩; go_simp; with_reducible rfl) ?_
   refine pP (i := 9) (N := some 39) (bm 14 1023) rfl rfl HT_.out ?_
   refine pT (i := 10) (N := some 40) (bm 14 2047) rfl rfl HT_.out HW_.out hHeld (by rintro w' ⟨s0, s1, s2, s3, s4, s5, s6⟩; go_simp; with_reducible rfl) ?_
   refine one_ (i := 11) (N := some 41) (bm 14 4095) rfl rfl (one_of HT_.out (by kernel_rfl)) (by decide) (fun K hK => ?_)
   refine value_ (w1 := we.alloc (.cells #[.bool ((rd_T43 V (rd l1 (i : Int))).f0.f0), .slice B1 ((rd_T43 V (rd l1 (i : Int))).f0.f1).length b1, .slice B2 ((rd_T43 V (rd l1 (i : Int))).f0.f2).length b2, .int .u64 ((rd_T43 V (rd l1 (i : Int))).f1), .int .i64 ((rd_T43 V (rd l1 (i : Int))).f2)] 43 (0, 0))) (v := .slice (some ⟨we.heap.size, 0, none⟩) 1 1) (by rfl) rfl (by first | (go_simp; done) | (go_simp; rfl)) ?_
   have HBa := aM (below_alloc HB.out (.cells #[.bool ((rd_T43 V (rd l1 (i : Int))).f0.f0), .slice B1 ((rd_T43 V (rd l1 (i : Int))).f0.f1).length b1, .slice B2 ((rd_T43 V (rd l1 (i : Int))).f0.f2).length b2, .int .u64 ((rd_T43 V (rd l1 (i : Int))).f1), .int .i64 ((rd_T43 V (rd l1 (i : Int))).f2)] 43 (0, 0)))
   have mv : ∀ {a : Addr} {v : Value}, w.cell? a = some v → (we.alloc (.cells #[.bool ((rd_T43 V (rd l1 (i : Int))).f0.f0), .slice B1 ((rd_T43 V (rd l1 (i : Int))).f0.f1).length b1, .slice B2 ((rd_T43 V (rd l1 (i : Int))).f0.f2).length b2, .int .u64 ((rd_T43 V (rd l1 (i : Int))).f1), .int .i64 ((rd_T43 V (rd l1 (i : Int))).f2)] 43 (0, 0))).cell? a = some v := fun h_ => (HBa.out.cell (World.block_lt_of_cell? w _ h_)).trans h_
   refine hK.out _ _ ⟨mv QX.out, mv QS.out, mv HY.out.1, mv HY.out.2.1, mv HY.out.2.2.1, mv HY.out.2.2.2.1, mv HY.out.2.2.2.2⟩ (fun hHeld => ?_)
   clear hK K
   refine norm_ (a' := ?_) ?_ ?_
   rotate_left
   ·show Act.put _ (some 41) _ = _
    simp only [Act.put, sP, i64_w, i32_w]
    rfl
   refine one_ (i := 12) (N := some 42) (bm 14 8191) rfl rfl (one_of HT_.out (by kernel_rfl)) (by decide) (fun K hK => ?_)
   refine Kd.R_append_step (kE W) (w0 := w) w.heap.size (by rfl) (.tmp 30) (.tmp 41) 22 43 (.agg #[(.bool false), (.slice none 0 0), (.slice none 0 0), (.int .u64 0), (.int .i64 0)]) 72 rfl Try.underlying22 info43 rfl (by show 0 < 5; decide) (by omega) u6 o (rd_T43 V (rd l1 (i : Int))) [.bool ((rd_T43 V (rd l1 (i : Int))).f0.f0), .slice B1 ((rd_T43 V (rd l1 (i : Int))).f0.f1).length b1, .slice B2 ((rd_T43 V (rd l1 (i : Int))).f0.f2).length b2, .int .u64 ((rd_T43 V (rd l1 (i : Int))).f1), .int .i64 ((rd_T43 V (rd l1 (i : Int))).f2)] (fun _ => True) (fun _ => False) rfl rfl (kEM HYK.out) (fun _ h_ => h_.elim) (fun _ _ => trivial) HO.out HB.out (below_size HB.out) (by have := HL.out; have := HK.out; have := HN.out; omega) ?_
   intro v1 w1 ho hb _ _
   replace HB := aM hb
   have HO1 := aM ho
   clear ho hb HBa
   have mv : ∀ {a : Addr} {v : Value}, w.cell? a = some v → w1.cell? a = some v := fun h_ => (HB.out.cell (World.block_lt_of_cell? w _ h_)).trans h_
   refine hK.out _ _ ⟨mv QX.out, mv QS.out, mv HY.out.1, mv HY.out.2.1, mv HY.out.2.2.1, mv HY.out.2.2.2.1, mv HY.out.2.2.2.2⟩ (fun hHeld => ?_)
   clear hK K
   refine norm_ (a' := ?_) ?_ ?_
   rotate_left
   ·show Act.put _ (some 42) _ = _
    simp only [Act.put, sP, i64_w, i32_w]
    rfl
   refine pP (i := 13) (N := some 6) (bm 14 16383) rfl rfl HT_.out ?_
   refine done_ (done_of HT_.out (by kernel_rfl)) ?_
   clear hHeld HT_ HW_
   try go_wp2
   go_roundg kq
   case measure => omega
   case rel => exact ⟨i + 1, _, by first | rfl | (rw [w64o (by have := HK.out; have := HN.out; omega) (by have := HK.out; have := HN.out; omega)]; rfl), ⟨by have := HK.out; omega⟩, H1, ⟨by have := HL.out; simp; omega⟩, ⟨pR HO1.out⟩, ⟨qB HB⟩⟩
  | zero =>
   have H := HA.out
   rw [get.g] at H
   obtain ⟨rfl, rfl⟩ := Prod.mk.inj H
   have hin : i = l1.length := by have := HK.out; omega
   clear HA HK
   subst hin
   have d1 : decide ((l1.length : Int) < (l1.length : Int)) = false := decide_eq_false (by omega)
   have d2 : decide (l1.length < l1.length) = false := decide_eq_false (by omega)
   go_wp2
   go_ret2
   exact ⟨_, pE, pR HO.out, qB HB⟩
end Rf
end Go.Proofs.Ytekmchjlnekliaa.Q
