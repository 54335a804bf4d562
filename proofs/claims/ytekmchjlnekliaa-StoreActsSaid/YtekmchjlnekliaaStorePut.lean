/- The store's methods: what they compute, and that they compute it. -/
import Derived.Test.YtekmchjlnekliaaQxfBankCopied
import Derived.Test.YtekmchjlnekliaaQxfBankCopy
import Derived.Test.YtekmchjlnekliaaQxfLaw24Many
import Derived.Test.YtekmchjlnekliaaQxfPlainLong
import Derived.Test.YtekmchjlnekliaaQxfPlainWide
import Derived.Test.YtekmchjlnekliaaQxfRef07Same
import Derived.Test.YtekmchjlnekliaaQxfRef07Words
import Derived.Test.YtekmchjlnekliaaQxfRef18All
import Derived.Test.YtekmchjlnekliaaQxfRef18Same
import Derived.Test.YtekmchjlnekliaaQxfRef19Has
import Derived.Test.YtekmchjlnekliaaQxfStoreCopies
namespace Go.Proofs.Ytekmchjlnekliaa.Q
open Go.RowKit Go.Proofs.YtekmchjlnekliaaW.PrintWords Go.Proofs.YtekmchjlnekliaaW.PrintLast Go.Proofs.YtekmchjlnekliaaW.PrintMore
attribute [local go_sem] max2_int min2_int max_two min_two max_three min_three max_four min_four
set_option linter.unusedVariables false
set_option linter.unusedSimpArgs false
def bvals (s : List Bool) : Array Value := (s.map Value.bool).toArray
def bfs : List Bool := List.replicate 64 false
theorem bvals_cell {w : World} {g t : Nat} {s : List Bool} (h : w.heap[g]? = some (.cells (bvals s) t (0, 0))) (i : Int) (h0 : 0 ≤ i) (h1 : i < s.length) : w.cell? ⟨g, i.toNat, none⟩ = some (.bool (s.getD i.toNat false)) := by
  rw [blk_cell h]
  have hi : i.toNat < s.length := by omega
  simp [bvals, List.getD_eq_getElem?_getD, List.getElem?_eq_getElem hi]
theorem bvals_set (s : List Bool) (i : Nat) (x : Bool) : (bvals s).setIfInBounds i (.bool x) = bvals (s.set i x) := by
  simp [bvals, List.map_set]
/-- Are all cells there, from the i-th one on? -/
def store_Put.a0 (n : Nat) (l1 : List Int) : Nat → Nat → Bool
 | 0, _ => true
 | q + 1, i => if rd l1 (i : Int) < 0 then false else if (n : Int) ≤ rd l1 (i : Int) then false else store_Put.a0 n l1 q (i + 1)
/-- Is none met twice? -/
def store_Put.a1 (l1 : List Int) : Nat → Nat → List Bool → Bool
 | 0, _, _ => true
 | q + 1, i, s => if s.getD (rd l1 (i : Int)).toNat false = true then false else store_Put.a1 l1 q (i + 1) (s.set (rd l1 (i : Int)).toNat true)
def store_Put.a2 (l1 : List Int) (l2 : List S43) : Nat → Nat → List S43 → List S43
 | 0, _, V => V
 | q + 1, i, V => store_Put.a2 l1 l2 q (i + 1) (V.set (rd l1 (i : Int)).toNat (rd_T43 l2 (i : Int)))
def store_Put.f (V : List S43) (l1 : List Int) (l2 : List S43) : Int × List S43 :=
 if l1.length = l2.length then (if store_Put.a0 V.length l1 l1.length 0 = true then (if store_Put.a1 l1 l1.length 0 bfs = true then (0, store_Put.a2 l1 l2 l1.length 0 V) else (16, V)) else (11, V)) else (1, V)
theorem store_Put.a0_all {n : Nat} {l1 : List Int} : ∀ {q i : Nat}, store_Put.a0 n l1 q i = true → ∀ j, i ≤ j → j < i + q → 0 ≤ rd l1 (j : Int) ∧ rd l1 (j : Int) < (n : Int)
 | 0, i, _, j, h1, h2 => by omega
 | q + 1, i, h, j, h1, h2 => by
  rw [store_Put.a0] at h
  split at h
  · cases h
  · split at h
    · cases h
    · by_cases e : j = i
      · subst e; omega
      · exact store_Put.a0_all h j (by omega) (by omega)
theorem bcopy (a : Bool) (l m : List Int) (x y : Int) (hl : l.length ≤ 1000) (hm : m.length ≤ 1000) : bank_Copy.f a l m x y = some (a, l, m, x, y) := by
  simp [bank_Copy.f, bank_copied.f]
  rw [if_pos (by omega), if_pos (by omega)]
  rfl
def store_Put.T22 : Bool × List (List Nat × List Nat) := (true, [([], []), ([0], [0]), ([1], [1]), ([2], [2]), ([], []), ([], []), ([], []), ([5, 6], [5, 6]), ([7], [7]), ([8], [8]), ([3, 4, 0, 1, 2, 3, 4, 5, 6, 7, 8, 9], [3, 4]), ([10, 9, 9, 0, 1, 2, 3, 4, 5, 6, 7, 8, 9], [9, 10])])
def store_Put.B22 : List Nat := [0, 1, 3, 7, 0, 0, 0, 96, 224, 480, 1023, 2047]
theorem store_Put.tab22 : rtab .any (opsOf Try.f9 22) = store_Put.T22 := by kernel_rfl
theorem store_Put.bits22 : waitsOk store_Put.T22.2 store_Put.B22 = true := by kernel_rfl
set_option maxHeartbeats 16000000 in
set_option maxRecDepth 100000 in
theorem store_Put.calls (gs gr c : Nat) (V : List S43) (ver : Int) (ok : Nat → Prop) (A1 : Option Addr) (c1 : Nat) (l1 : List Int) (A2 : Option Addr) (c2 : Nat) (l2 : List S43) (w0 w : World)
  (hst : w.heap[gs]? = some (.cells #[.slice (some ⟨gr, 0, none⟩) V.length c, .int .i64 ver] 57 (0, 0))) (hV : Kd.S k43 43 w w0.heap.size ok (.slice (some ⟨gr, 0, none⟩) V.length c) V) (hok : ∀ k, ok k → k ≠ gs) (hBs : w0.heap.size ≤ gs) (hBr : w0.heap.size ≤ gr) (hsr : gs ≠ gr) (h64 : V.length ≤ 64) (hn : l1.length ≤ 1000000)
  (hB : Below w0.heap.size w0 w) (hr1 : ∀ w', Below w0.heap.size w0 w' → (∀ k, k < w.heap.size → k ≠ gs → k ≠ gr → w'.heap[k]? = w.heap[k]?) → Kd.C (Kd.int .i64) w' A1 l1.length l1) (hr2 : ∀ w', Below w0.heap.size w0 w' → (∀ k, k < w.heap.size → k ≠ gs → k ≠ gr → w'.heap[k]? = w.heap[k]?) → Kd.C k43 w' A2 l2.length l2) (hA2 : 0 < l2.length → ∀ ad, A2 = some ad → ad.block ≠ gr) (hw : ∀ x ∈ l2, x.f0.f1.length ≤ 1000 ∧ x.f0.f2.length ≤ 1000) :
  Calls Try.prog 9 #[.pointer (some ⟨gs, 0, none⟩), .slice A1 l1.length c1, .slice A2 l2.length c2] w fun e w' => e = .returned (.int .i64 (store_Put.f V l1 l2).1) ∧ w'.heap[gs]? = some (.cells #[.slice (some ⟨gr, 0, none⟩) V.length c, .int .i64 (if (store_Put.f V l1 l2).1 = 0 then wrap64 (ver + 1) else ver)] 57 (0, 0)) ∧ Kd.S k43 43 w' w0.heap.size (fun k => k ≠ gs) (.slice (some ⟨gr, 0, none⟩) V.length c) (store_Put.f V l1 l2).2 ∧ Below w0.heap.size w0 w' ∧ (∀ k, k < w.heap.size → k ≠ gs → k ≠ gr → w'.heap[k]? = w.heap[k]?) := by
 have hu43 := Try.underlying43
 have hu57 := Try.underlying57
 have hu58 := Try.underlying58
 have HS := aM hst
 have HV := aM (Kd.S_mono hV hok)
 have HBw := aM hB
 have HR1 := aM hr1
 have HR2 := aM hr2
 have HA2 := aM hA2
 have HW := aM hw
 have HX := aM (show w0.heap.size ≤ gs ∧ w0.heap.size ≤ gr ∧ gs ≠ gr ∧ V.length ≤ 64 ∧ l1.length ≤ 1000000 from ⟨hBs, hBr, hsr, h64, hn⟩)
 clear hst hV hok hB hr1 hr2 hA2 hw hBs hBr hsr h64 hn
 have HB := aM (Below.refl w.heap.size w)
 have END : ∀ {w' : World}, Below w.heap.size w w' → w'.heap[gs]? = some (.cells #[.slice (some ⟨gr, 0, none⟩) V.length c, .int .i64 ver] 57 (0, 0)) ∧ Kd.S k43 43 w' w0.heap.size (fun k => k ≠ gs) (.slice (some ⟨gr, 0, none⟩) V.length c) V ∧ Below w0.heap.size w0 w' ∧ (∀ k, k < w.heap.size → k ≠ gs → k ≠ gr → w'.heap[k]? = w.heap[k]?) := fun hb => ⟨blk_below HS.out hb, Kd.S_below HV.out hb, (below_step HBw.out hb), fun k hk _ _ => hb.block k hk⟩
 have FIN := aM (show ∀ {w' : World}, Below w.heap.size w w' → w'.heap[gs]? = some (.cells #[.slice (some ⟨gr, 0, none⟩) V.length c, .int .i64 ver] 57 (0, 0)) ∧ Kd.S k43 43 w' w0.heap.size (fun k => k ≠ gs) (.slice (some ⟨gr, 0, none⟩) V.length c) V ∧ Below w0.heap.size w0 w' ∧ (∀ k, k < w.heap.size → k ≠ gs → k ≠ gr → w'.heap[k]? = w.heap[k]?) from END)
 clear END
 by_cases hl : l1.length = l2.length
 rotate_left
 ·have ef : store_Put.f V l1 l2 = (1, V) := by rw [store_Put.f, if_neg hl]
  rw [ef]
  have hl' : ¬ ((l1.length : Int) = (l2.length : Int)) := by omega
  have b1 : ((l1.length : Int) != (l2.length : Int)) = true := bne_iff_ne.mpr hl'
  have b2 : ((l1.length : Int) == (l2.length : Int)) = false := beq_eq_false_iff_ne.mpr hl'
  have b3 : (l1.length == l2.length) = false := beq_eq_false_iff_ne.mpr hl
  clear ef
  go_enter Try.func9, Try.ntmps9
  go_wp2
  go_ret
  exact ⟨pE, FIN.out (qB HB)⟩
 obtain ⟨R0, hR0⟩ : ∃ b, store_Put.a0 V.length l1 l1.length 0 = b := ⟨_, rfl⟩
 obtain ⟨R1, hR1⟩ : ∃ b, store_Put.a1 l1 l1.length 0 bfs = b := ⟨_, rfl⟩
 obtain ⟨RV, hRV⟩ : ∃ b, store_Put.a2 l1 l2 l1.length 0 V = b := ⟨_, rfl⟩
 have ef : store_Put.f V l1 l2 = if R0 = true then (if R1 = true then (0, RV) else (16, V)) else (11, V) := by rw [store_Put.f, if_pos hl, hR0, hR1, hRV]
 rw [ef]
 clear ef
 have HL := aM hl
 have A0_ := aM hR0
 have A1_ := aM hR1
 have A2_ := aM hRV
 have b1 : ((l1.length : Int) != (l2.length : Int)) = false := bne_eq_false_iff_eq.mpr (by omega)
 have b2 : ((l1.length : Int) == (l2.length : Int)) = true := beq_iff_eq.mpr (by omega)
 have b3 : (l1.length == l2.length) = true := beq_iff_eq.mpr hl
 clear hl hR0 hR1 hRV
 go_enter Try.func9, Try.ntmps9
 go_upto_region 5 with (fail)
 refine wp_region_lit ?_
 refine box_event ?hg (N := 7) ?hd (cs := bvals bfs) (t := 58) ?hr ?_
 (case hd => rfl)
 (case hg => rfl)
 (case hr => first | (go_simp; done) | (go_simp; rfl))
 intro gm hg w10 hbox hb
 have BM := aM hbox
 have GE := gE (w := w) hg (qB HB)
 replace HB := bS (qB HB) hb
 clear hb hbox hg b1 b2 b3
 go_wp2
 go_loopg [23] l1.length (fun kq v23 w' => ∃ (i : Nat), v23 = .int .i64 (i : Int) ∧ Aside0 (i + kq = l1.length) ∧ Aside0 (store_Put.a0 V.length l1 kq i = R0) ∧ Aside0 (w'.heap[gm]? = some (.cells (bvals bfs) 58 (0, 0))) ∧ Aside0 (Below w.heap.size w w'))
 case atStart => exact ⟨0, rfl, ⟨by omega⟩, A0_, BM, HB⟩
 case round =>
  clear BM HB
  obtain ⟨i, rfl, HK, HA, BM, HB⟩ := hrel
  cases gk with
  | succ kq =>
   have H := HA.out
   clear HA
   rw [store_Put.a0] at H
   have hi : i < l1.length := by have := HK.out; omega
   have d1 : decide ((i : Int) < (l1.length : Int)) = true := decide_eq_true (by omega)
   have d1n : decide (i < l1.length) = true := decide_eq_true hi
   have p1 : (0 ≤ (i : Int)) = True := eq_true (by omega)
   have q1 : ((i : Int) < (l1.length : Int)) = True := eq_true (by omega)
   have q1n : (i < l1.length) = True := eq_true hi
   have HBc := aM (below_step HBw.out HB.out)
   obtain ⟨ad, ead, hx⟩ := Kd.at_int (HR1.out _ HBc.out (fun k a_ _ _ => HB.out.block k a_)) (i : Int) (by omega) (by omega)
   cases ead
   rw [Int.toNat_natCast] at hx
   have hczs := blk2 (blk_below HS.out HB.out)
   by_cases c1_ : rd l1 (i : Int) < 0
   ·rw [if_pos c1_] at H
    subst H
    have e1 : decide (rd l1 (i : Int) < 0) = true := decide_eq_true c1_
    go_wp2
    go_ret
    exact ⟨pE, FIN.out (qB HB)⟩
   rw [if_neg c1_] at H
   have e1 : decide (rd l1 (i : Int) < 0) = false := decide_eq_false c1_
   by_cases c2_ : (V.length : Int) ≤ rd l1 (i : Int)
   ·rw [if_pos c2_] at H
    subst H
    have e2 : decide (rd l1 (i : Int) ≥ (V.length : Int)) = true := decide_eq_true c2_
    have e3 : decide ((V.length : Int) ≤ rd l1 (i : Int)) = true := decide_eq_true c2_
    go_wp2
    go_ret
    exact ⟨pE, FIN.out (qB HB)⟩
   rw [if_neg c2_] at H
   have e2 : decide (rd l1 (i : Int) ≥ (V.length : Int)) = false := decide_eq_false c2_
   have e3 : decide ((V.length : Int) ≤ rd l1 (i : Int)) = false := decide_eq_false c2_
   have H1 := aM H
   clear H
   go_wp2
   go_roundg kq
   case measure => omega
   case rel => exact ⟨i + 1, by first | rfl | (rw [w64o (by have := HK.out; have := HX.out; omega) (by have := HK.out; have := HX.out; omega)]; rfl), ⟨by have := HK.out; omega⟩, H1, ⟨by first | exact BM.out | (with_reducible repeat (first | apply bN | apply bD | apply bA)); exact BM.out⟩, ⟨qB HB⟩⟩
  | zero =>
   have H := HA.out
   rw [store_Put.a0] at H
   subst H
   have hin : i = l1.length := by have := HK.out; omega
   clear HA HK
   subst hin
   have ALL := aM (store_Put.a0_all A0_.out)
   have d1 : decide ((l1.length : Int) < (l1.length : Int)) = false := decide_eq_false (by omega)
   have d1n : decide (l1.length < l1.length) = false := decide_eq_false (by omega)
   go_wp2
   go_loopg [41] l1.length (fun kq v41 w' => ∃ (i : Nat) (s : List Bool), v41 = .int .i64 (i : Int) ∧ Aside0 (i + kq = l1.length) ∧ Aside0 (store_Put.a1 l1 kq i s = R1) ∧ Aside0 (s.length = 64) ∧ Aside0 (w'.heap[gm]? = some (.cells (bvals s) 58 (0, 0))) ∧ Aside0 (Below w.heap.size w w'))
   case atStart => exact ⟨0, bfs, rfl, ⟨by omega⟩, A1_, ⟨by simp [bfs]⟩, ⟨by first | exact BM.out | (with_reducible repeat (first | apply bN | apply bD | apply bA)); exact BM.out⟩, ⟨qB HB⟩⟩
   case round =>
    clear BM HB
    obtain ⟨i, s, rfl, HK, HA, HN, BM, HB⟩ := hrel
    cases gk with
    | succ kq =>
     have H := HA.out
     clear HA
     rw [store_Put.a1] at H
     have hi : i < l1.length := by have := HK.out; omega
     obtain ⟨g0, g1⟩ := ALL.out i (by omega) (by omega)
     have d1 : decide ((i : Int) < (l1.length : Int)) = true := decide_eq_true (by omega)
     have d1n : decide (i < l1.length) = true := decide_eq_true hi
     have p1 : (0 ≤ (i : Int)) = True := eq_true (by omega)
     have q1 : ((i : Int) < (l1.length : Int)) = True := eq_true (by omega)
     have q1n : (i < l1.length) = True := eq_true hi
     have p2 : (0 ≤ rd l1 (i : Int)) = True := eq_true g0
     have q2 : (rd l1 (i : Int) < 64) = True := eq_true (by have := HX.out; omega)
     have HBc := aM (below_step HBw.out HB.out)
     obtain ⟨ad, ead, hx⟩ := Kd.at_int (HR1.out _ HBc.out (fun k a_ _ _ => HB.out.block k a_)) (i : Int) (by omega) (by omega)
     cases ead
     rw [Int.toNat_natCast] at hx
     have hx2 := bvals_cell BM.out (rd l1 (i : Int)) g0 (by have := HX.out; have := HN.out; omega)
     have hf2 := blk_frozen BM.out (rd l1 (i : Int)).toNat
     by_cases c1_ : s.getD (rd l1 (i : Int)).toNat false = true
     ·rw [if_pos c1_] at H
      subst H
      rw [c1_] at hx2
      go_wp2
      go_ret
      exact ⟨pE, FIN.out (qB HB)⟩
     rw [if_neg c1_] at H
     rw [Bool.eq_false_iff.mpr c1_] at hx2
     have H1 := aM H
     clear H
     go_wp2
     go_roundg kq
     case measure => omega
     case rel => exact ⟨i + 1, _, by first | rfl | (rw [w64o (by have := HK.out; have := HX.out; omega) (by have := HK.out; have := HX.out; omega)]; rfl), ⟨by have := HK.out; omega⟩, H1, ⟨by rw [List.length_set]; exact HN.out⟩, ⟨blk_put BM.out _ _ (bvals_set _ _ _)⟩, ⟨below_set HB.out GE.out⟩⟩
    | zero =>
     have H := HA.out
     rw [store_Put.a1] at H
     subst H
     have hin : i = l1.length := by have := HK.out; omega
     clear HA HK
     subst hin
     have d1 : decide ((l1.length : Int) < (l1.length : Int)) = false := decide_eq_false (by omega)
     have d1n : decide (l1.length < l1.length) = false := decide_eq_false (by omega)
     go_wp2
     have FI := FIN
     clear FIN
     go_loopg [53] l1.length (fun kq v53 w' => ∃ (i : Nat) (U : List S43), v53 = .int .i64 (i : Int) ∧ Aside0 (i + kq = l1.length) ∧ Aside0 (store_Put.a2 l1 l2 kq i U = RV) ∧ Aside0 (U.length = V.length) ∧ Aside0 (w'.heap[gs]? = some (.cells #[.slice (some ⟨gr, 0, none⟩) V.length c, .int .i64 ver] 57 (0, 0))) ∧ Aside0 (Kd.S k43 43 w' w0.heap.size (fun k => k ≠ gs) (.slice (some ⟨gr, 0, none⟩) V.length c) U) ∧ Aside0 (Below w0.heap.size w0 w') ∧ Aside0 (w.heap.size ≤ w'.heap.size ∧ ∀ k, k < w.heap.size → k ≠ gs → k ≠ gr → w'.heap[k]? = w.heap[k]?))
     case atStart => exact ⟨0, V, rfl, ⟨by omega⟩, A2_, ⟨rfl⟩, ⟨(FI.out (qB HB)).1⟩, ⟨(FI.out (qB HB)).2.1⟩, ⟨(FI.out (qB HB)).2.2.1⟩, ⟨below_size (qB HB), (FI.out (qB HB)).2.2.2⟩⟩
     case round =>
      clear BM HB FI
      obtain ⟨i, U, rfl, HK, HA, HN2, HSi, HU, HBi, HF⟩ := hrel
      cases gk with
      | succ kq =>
       have H := HA.out
       clear HA
       rw [store_Put.a2] at H
       have H1 := aM H
       clear H
       have hi : i < l1.length := by have := HK.out; omega
       have hi2 : (i : Int) < (l2.length : Int) := by have := HL.out; omega
       obtain ⟨g0, g1⟩ := ALL.out i (by omega) (by omega)
       have d1 : decide ((i : Int) < (l1.length : Int)) = true := decide_eq_true (by omega)
       have d1n : decide (i < l1.length) = true := decide_eq_true hi
       have p1 : (0 ≤ (i : Int)) = True := eq_true (by omega)
       have q1 : ((i : Int) < (l1.length : Int)) = True := eq_true (by omega)
       have q1n : (i < l1.length) = True := eq_true hi
       have q3 : ((i : Int) < (l2.length : Int)) = True := eq_true hi2
       have q3n : (i < l2.length) = True := eq_true (by omega)
       have p2 : (0 ≤ rd l1 (i : Int)) = True := eq_true g0
       have q2 : (rd l1 (i : Int) < (V.length : Int)) = True := eq_true g1
       have hem : (rd_T43 l2 (i : Int)) ∈ l2 := by
        unfold rd_T43
        rw [List.getD_eq_getElem?_getD, List.getElem?_eq_getElem (show (i : Int).toNat < l2.length by omega)]
        exact List.getElem_mem _
       have AC := aM (bcopy (rd_T43 l2 (i : Int)).f0.f0 (rd_T43 l2 (i : Int)).f0.f1 (rd_T43 l2 (i : Int)).f0.f2 (rd_T43 l2 (i : Int)).f1 (rd_T43 l2 (i : Int)).f2 (HW.out _ hem).1 (HW.out _ hem).2)
       clear hem
       obtain ⟨ad, ead, hx⟩ := Kd.at_int (HR1.out _ HBi.out HF.out.2) (i : Int) (by omega) (by omega)
       cases ead
       rw [Int.toNat_natCast] at hx
       obtain ⟨ad2, B1, b1, B2, b2, ead2, hy0, hy1, hy2, hy3, hy4, hl1, hi1, hl2, hi2_⟩ := at_T43 (HR2.out _ HBi.out HF.out.2) (i : Int) (by omega) hi2
       cases ead2
       have hne := HA2.out (by omega) _ rfl
       have HI1 := aM hi1
       have HL1 := aM hl1
       have HI2 := aM hi2_
       have HL2 := aM hl2
       have HY := aM (And.intro hy0 (And.intro hy1 (And.intro hy2 (And.intro hy3 hy4))))
       clear hi1 hl1 hi2_ hl2 hy0 hy1 hy2 hy3 hy4
       go_wp2
       replace HSi := aM (blk_drew HSi.out)
       replace HU := aM (Kd.S_drew HU.out)
       replace HBi := aM (below_drew1 HBi.out)
       have HYd : Aside0 (wr.drew.cell? (ad2.add (i * 5)) = some (.bool ((rd_T43 l2 (i : Int)).f0.f0)) ∧ wr.drew.cell? ⟨(ad2.add (i * 5)).block, (ad2.add (i * 5)).off + 1, none⟩ = some (.slice B1 ((rd_T43 l2 (i : Int)).f0.f1).length b1) ∧ wr.drew.cell? ⟨(ad2.add (i * 5)).block, (ad2.add (i * 5)).off + 2, none⟩ = some (.slice B2 ((rd_T43 l2 (i : Int)).f0.f2).length b2) ∧ wr.drew.cell? ⟨(ad2.add (i * 5)).block, (ad2.add (i * 5)).off + 3, none⟩ = some (.int .u64 ((rd_T43 l2 (i : Int)).f1)) ∧ wr.drew.cell? ⟨(ad2.add (i * 5)).block, (ad2.add (i * 5)).off + 4, none⟩ = some (.int .i64 ((rd_T43 l2 (i : Int)).f2))) := ⟨HY.out⟩
       clear HY
       replace HI1 := aM (Kd.C_drew HI1.out)
       replace HI2 := aM (Kd.C_drew HI2.out)
       replace HF := aM (show w.heap.size ≤ wr.drew.heap.size ∧ ∀ k, k < w.heap.size → k ≠ gs → k ≠ gr → wr.drew.heap[k]? = w.heap[k]? from HF.out)
       refine start_ (n := 12) (S := fun w' => w'.cell? ⟨gs, 0, none⟩ = some (.slice (some ⟨gr, 0, none⟩) V.length c) ∧ w'.cell? (ad2.add (i * 5)) = some (.bool ((rd_T43 l2 (i : Int)).f0.f0)) ∧ w'.cell? ⟨(ad2.add (i * 5)).block, (ad2.add (i * 5)).off + 1, none⟩ = some (.slice B1 ((rd_T43 l2 (i : Int)).f0.f1).length b1) ∧ w'.cell? ⟨(ad2.add (i * 5)).block, (ad2.add (i * 5)).off + 2, none⟩ = some (.slice B2 ((rd_T43 l2 (i : Int)).f0.f2).length b2) ∧ w'.cell? ⟨(ad2.add (i * 5)).block, (ad2.add (i * 5)).off + 3, none⟩ = some (.int .u64 ((rd_T43 l2 (i : Int)).f1)) ∧ w'.cell? ⟨(ad2.add (i * 5)).block, (ad2.add (i * 5)).off + 4, none⟩ = some (.int .i64 ((rd_T43 l2 (i : Int)).f2))) (ds := []) (bm 12 0) (by kernel_rfl) rfl rfl ⟨(blk_cell HSi.out 0).trans rfl, HYd.out⟩ (fun hHeld => ?_); refine with_tabW store_Put.tab22 store_Put.bits22 (fun HT_ HW_ => ?_)
       clear hx
       generalize wr.drew = wd at HSi HU HBi HF HYd HI1 HI2 hHeld ⊢
       refine pP (i := 0) (N := some 58) (bm 12 1) rfl rfl HT_.out ?_
       refine pP (i := 1) (N := some 59) (bm 12 3) rfl rfl HT_.out ?_
       refine pP (i := 2) (N := some 60) (bm 12 7) rfl rfl HT_.out ?_
       refine pT (i := 3) (N := some 61) (bm 12 15) rfl rfl HT_.out HW_.out hHeld (by rintro w' ⟨s0, s1, s2, s3, s4, s5⟩; go_simp; with_reducible rfl) ?_
       refine pP (i := 4) (N := some 62) (bm 12 31) rfl rfl HT_.out ?_
       refine pP (i := 5) (N := some 63) (bm 12 63) rfl rfl HT_.out ?_
       refine pP (i := 6) (N := some 64) (bm 12 127) rfl rfl HT_.out ?_
       refine pP (i := 7) (N := some 65) (bm 12 255) rfl rfl HT_.out ?_
       refine pT (i := 8) (N := some 66) (bm 12 511) rfl rfl HT_.out HW_.out hHeld (by rintro w' ⟨s0, s1, s2, s3, s4, s5⟩; go_simp; with_reducible rfl) ?_
       refine one_ (i := 9) (N := some 67) (bm 12 1023) rfl rfl (one_of HT_.out (by kernel_rfl)) (by decide) (fun K hK => ?_)
       refine goes_ Try.func20 (by kernel_rfl) rfl #[.agg #[.bool ((rd_T43 l2 (i : Int)).f0.f0), .slice B1 ((rd_T43 l2 (i : Int)).f0.f1).length b1, .slice B2 ((rd_T43 l2 (i : Int)).f0.f2).length b2, .int .u64 ((rd_T43 l2 (i : Int)).f1), .int .i64 ((rd_T43 l2 (i : Int)).f2)]] (by rfl) rfl rfl pA ?_
       with_reducible refine (bank_Copy.calls ((rd_T43 l2 (i : Int)).f0.f0) _ _ ((rd_T43 l2 (i : Int)).f0.f1) _ _ ((rd_T43 l2 (i : Int)).f0.f2) ((rd_T43 l2 (i : Int)).f1) ((rd_T43 l2 (i : Int)).f2) _ _ _ _ _ _ ?s1 ?s2 ?s3 ?s4 AC.out).mono ?_
       (case s1 => exact HI1.out)
       (case s2 => exact HL1.out)
       (case s3 => exact HI2.out)
       (case s4 => exact HL2.out)
       rintro e w12 ⟨v1, v2, rfl, ho1, ho2, hb⟩
       refine ⟨_, rfl, ?_⟩
       obtain ⟨Y1, y1, ey1⟩ := Kd.R_slice ho1
       subst ey1
       obtain ⟨Y2, y2, ey2⟩ := Kd.R_slice ho2
       subst ey2
       have hgs : gs < wd.heap.size := blk_lt HSi.out
       have hgr : gr < wd.heap.size := Kd.S_lt HU.out gr (by simp [Value.ownBlock])
       have hw0 : w0.heap.size ≤ wd.heap.size := below_size HBi.out
       have hb1 := Kd.R_base ho1
       have hb2 := Kd.R_base ho2
       have HO := aM (Kd.S_mono (ok' := fun k => k ≠ gs ∧ ¬ (some k = (Value.slice Y1 ((rd_T43 l2 (i : Int)).f0.f1).length y1).ownBlock ∨ some k = (Value.slice Y2 ((rd_T43 l2 (i : Int)).f0.f2).length y2).ownBlock)) (Kd.S_old HU.out hb) (fun k hk => ⟨hk.1, fun h_ => h_.elim (fun e_ => by have := hb1 k e_.symm; have := hk.2; omega) (fun e_ => by have := hb2 k e_.symm; have := hk.2; omega)⟩))
       have HM := aM (k43_mkM w12 w0.heap.size (fun k => some k = (Value.slice Y1 ((rd_T43 l2 (i : Int)).f0.f1).length y1).ownBlock ∨ some k = (Value.slice Y2 ((rd_T43 l2 (i : Int)).f0.f2).length y2).ownBlock) (rd_T43 l2 (i : Int)) (Kd.R_mono (Kd.R_tight rfl (Kd.R_lower ho1 hw0)) (fun _ h_ => Or.inl h_)) (Kd.R_mono (Kd.R_tight rfl (Kd.R_lower ho2 hw0)) (fun _ h_ => Or.inr h_)))
       have HG := aM (show ∀ k, (some k = (Value.slice Y1 ((rd_T43 l2 (i : Int)).f0.f1).length y1).ownBlock ∨ some k = (Value.slice Y2 ((rd_T43 l2 (i : Int)).f0.f2).length y2).ownBlock) → k ≠ gs ∧ k ≠ gr from fun k h_ => h_.elim (fun e_ => by have := hb1 k e_.symm; omega) (fun e_ => by have := hb2 k e_.symm; omega))
       replace HSi := aM (blk_below HSi.out hb)
       replace HF := aM (show w.heap.size ≤ w12.heap.size ∧ ∀ k, k < w.heap.size → k ≠ gs → k ≠ gr → w12.heap[k]? = w.heap[k]? from ⟨Nat.le_trans HF.out.1 (below_size hb), fun k a_ b_ c_ => (hb.block k (Nat.lt_of_lt_of_le a_ HF.out.1)).trans (HF.out.2 k a_ b_ c_)⟩)
       replace HBi := aM (below_step HBi.out hb)
       have mvb : ∀ {a : Addr} {v : Value}, wd.cell? a = some v → w12.cell? a = some v := fun h_ => (hb.cell (World.block_lt_of_cell? wd _ h_)).trans h_
       have HYe : Aside0 (w12.cell? (ad2.add (i * 5)) = some (.bool ((rd_T43 l2 (i : Int)).f0.f0)) ∧ w12.cell? ⟨(ad2.add (i * 5)).block, (ad2.add (i * 5)).off + 1, none⟩ = some (.slice B1 ((rd_T43 l2 (i : Int)).f0.f1).length b1) ∧ w12.cell? ⟨(ad2.add (i * 5)).block, (ad2.add (i * 5)).off + 2, none⟩ = some (.slice B2 ((rd_T43 l2 (i : Int)).f0.f2).length b2) ∧ w12.cell? ⟨(ad2.add (i * 5)).block, (ad2.add (i * 5)).off + 3, none⟩ = some (.int .u64 ((rd_T43 l2 (i : Int)).f1)) ∧ w12.cell? ⟨(ad2.add (i * 5)).block, (ad2.add (i * 5)).off + 4, none⟩ = some (.int .i64 ((rd_T43 l2 (i : Int)).f2))) := ⟨mvb HYd.out.1, mvb HYd.out.2.1, mvb HYd.out.2.2.1, mvb HYd.out.2.2.2.1, mvb HYd.out.2.2.2.2⟩
       clear HYd mvb
       clear HU ho1 ho2 hb hb1 hb2 hw0 hgs hgr
       refine hK.out _ _ ⟨(blk_cell HSi.out 0).trans rfl, HYe.out⟩ (fun hHeld => ?_)
       clear hK K
       refine norm_ (a' := ?_) ?_ ?_
       rotate_left
       ·show Act.put _ (some 67) _ = _
        simp only [Act.put, sP, i64_w, i32_w]
        rfl
       refine pP (i := 10) (N := some 68) (bm 12 2047) rfl rfl HT_.out ?_
       obtain ⟨oki, cc, hcl, hM0, hcc, hfr, hoki, hH⟩ := Kd.S_elem HO.out z43 (rd l1 (i : Int)) g0 g1
       obtain ⟨t0, t1, t2, t3, t4, rfl⟩ : ∃ t0 t1 t2 t3 t4, cc = [t0, t1, t2, t3, t4] := by
        match cc, hcl with
        | [t0, t1, t2, t3, t4], _ => exact ⟨t0, t1, t2, t3, t4, rfl⟩
       have hs0 : w12.cell? ⟨gr, (rd l1 (i : Int)).toNat * 5, none⟩ = some t0 := hcc 0 _ rfl
       have hs1 : w12.cell? ⟨gr, (rd l1 (i : Int)).toNat * 5 + 1, none⟩ = some t1 := hcc 1 _ rfl
       have hs2 : w12.cell? ⟨gr, (rd l1 (i : Int)).toNat * 5 + 2, none⟩ = some t2 := hcc 2 _ rfl
       have hs3 : w12.cell? ⟨gr, (rd l1 (i : Int)).toNat * 5 + 3, none⟩ = some t3 := hcc 3 _ rfl
       have hs4 : w12.cell? ⟨gr, (rd l1 (i : Int)).toNat * 5 + 4, none⟩ = some t4 := hcc 4 _ rfl
       have hf0 : w12.frozen? ⟨gr, (rd l1 (i : Int)).toNat * 5, none⟩ = false := hfr 0
       have hf1 : w12.frozen? ⟨gr, (rd l1 (i : Int)).toNat * 5 + 1, none⟩ = false := hfr 1
       have hf2 : w12.frozen? ⟨gr, (rd l1 (i : Int)).toNat * 5 + 2, none⟩ = false := hfr 2
       have hf3 : w12.frozen? ⟨gr, (rd l1 (i : Int)).toNat * 5 + 3, none⟩ = false := hfr 3
       have hf4 : w12.frozen? ⟨gr, (rd l1 (i : Int)).toNat * 5 + 4, none⟩ = false := hfr 4
       have SEG := aM (Kd.S_seg (ok := fun k => k ≠ gs) (okg := fun k => some k = (Value.slice Y1 ((rd_T43 l2 (i : Int)).f0.f1).length y1).ownBlock ∨ some k = (Value.slice Y2 ((rd_T43 l2 (i : Int)).f0.f2).length y2).ownBlock) hH g0 g1 (seg := [.bool ((rd_T43 l2 (i : Int)).f0.f0), .slice Y1 ((rd_T43 l2 (i : Int)).f0.f1).length y1, .slice Y2 ((rd_T43 l2 (i : Int)).f0.f2).length y2, .int .u64 ((rd_T43 l2 (i : Int)).f1), .int .i64 ((rd_T43 l2 (i : Int)).f2)]) (j := 0) (by exact Nat.le_refl 5) (x' := (rd_T43 l2 (i : Int))) HM.out (fun _ h_ => Or.inr h_) (fun k h_ => HG.out k h_))
       have HGR := aM (HX.out.2.1)
       refine one_ (i := 11) (N := none) (bm 12 4095) rfl rfl (one_of HT_.out (by kernel_rfl)) (by decide) (fun K hK => ?_)
       refine skip_ (w1 := ?_) (by rfl) rfl ?_ ?_
       rotate_left
       ·go_simp
        rfl
       suffices h_ : K _ (w12.setCells gr ((rd l1 (i : Int)).toNat * k43.sz + 0) [.bool ((rd_T43 l2 (i : Int)).f0.f0), .slice Y1 ((rd_T43 l2 (i : Int)).f0.f1).length y1, .slice Y2 ((rd_T43 l2 (i : Int)).f0.f2).length y2, .int .u64 ((rd_T43 l2 (i : Int)).f1), .int .i64 ((rd_T43 l2 (i : Int)).f2)]) from h_
       have hgr : gr < w12.heap.size := Kd.S_lt HO.out gr (by simp [Value.ownBlock])
       have hgs : gs < w12.heap.size := blk_lt HSi.out
       clear hs0 hs1 hs2 hs3 hs4 hf0 hf1 hf2 hf3 hf4 hcc hfr hH hM0 hoki hcl HM HG HO hHeld
       generalize w12.setCells gr ((rd l1 (i : Int)).toNat * k43.sz + 0) [.bool ((rd_T43 l2 (i : Int)).f0.f0), .slice Y1 ((rd_T43 l2 (i : Int)).f0.f1).length y1, .slice Y2 ((rd_T43 l2 (i : Int)).f0.f2).length y2, .int .u64 ((rd_T43 l2 (i : Int)).f1), .int .i64 ((rd_T43 l2 (i : Int)).f2)] = w13 at SEG ⊢
       obtain ⟨s1, s2⟩ := SEG.out
       clear SEG
       replace HSi := aM ((s2.block gs hgs (fun e_ => HX.out.2.2.1 (Option.some.inj e_))).trans HSi.out)
       replace HF := aM (show w.heap.size ≤ w13.heap.size ∧ ∀ k, k < w.heap.size → k ≠ gs → k ≠ gr → w13.heap[k]? = w.heap[k]? from ⟨Nat.le_trans HF.out.1 s2.size, fun k a_ b_ c_ => (s2.block k (Nat.lt_of_lt_of_le a_ HF.out.1) (fun e_ => c_ (Option.some.inj e_))).trans (HF.out.2 k a_ b_ c_)⟩)
       replace HBi := aM (HBi.out.grown s2 (below_size HBi.out) (fun k e_ => by cases e_; exact HX.out.2.1))
       have HU := aM s1
       have mvb : ∀ {a : Addr} {v : Value}, a.block ≠ gr → w12.cell? a = some v → w13.cell? a = some v := fun hn_ h_ => (World.cell?_of_block (s2.block _ (World.block_lt_of_cell? w12 _ h_) (fun e_ => hn_ (Option.some.inj e_)))).trans h_
       have hnb : (ad2.add (i * 5)).block ≠ gr := by rw [show (ad2.add (i * 5)).block = ad2.block by unfold Addr.add; split <;> rfl]; exact hne
       have HYf : Aside0 (w13.cell? (ad2.add (i * 5)) = some (.bool ((rd_T43 l2 (i : Int)).f0.f0)) ∧ w13.cell? ⟨(ad2.add (i * 5)).block, (ad2.add (i * 5)).off + 1, none⟩ = some (.slice B1 ((rd_T43 l2 (i : Int)).f0.f1).length b1) ∧ w13.cell? ⟨(ad2.add (i * 5)).block, (ad2.add (i * 5)).off + 2, none⟩ = some (.slice B2 ((rd_T43 l2 (i : Int)).f0.f2).length b2) ∧ w13.cell? ⟨(ad2.add (i * 5)).block, (ad2.add (i * 5)).off + 3, none⟩ = some (.int .u64 ((rd_T43 l2 (i : Int)).f1)) ∧ w13.cell? ⟨(ad2.add (i * 5)).block, (ad2.add (i * 5)).off + 4, none⟩ = some (.int .i64 ((rd_T43 l2 (i : Int)).f2))) := ⟨mvb hnb HYe.out.1, mvb hnb HYe.out.2.1, mvb hnb HYe.out.2.2.1, mvb hnb HYe.out.2.2.2.1, mvb hnb HYe.out.2.2.2.2⟩
       clear s1 s2 mvb
       refine hK.out _ _ ⟨(blk_cell HSi.out 0).trans rfl, HYf.out⟩ (fun hHeld2 => ?_)
       clear hK K hHeld2
       refine done_ (done_of HT_.out (by kernel_rfl)) ?_
       try go_wp2
       go_roundg kq
       case measure => omega
       case rel => exact ⟨i + 1, _, by first | rfl | (rw [w64o (by have := HK.out; have := HX.out; omega) (by have := HK.out; have := HX.out; omega)]; rfl), ⟨by have := HK.out; omega⟩, H1, ⟨by rw [List.length_set]; exact HN2.out⟩, ⟨by first | exact HSi.out | (with_reducible repeat (first | apply bN | apply bD | apply bA)); exact HSi.out⟩, ⟨by first | exact HU.out | ((with_reducible repeat (first | apply Kd.S_alloc | apply Kd.S_drewN | apply Kd.S_drew)); exact HU.out)⟩, ⟨qB HBi⟩, HF⟩
      | zero =>
       have H := HA.out
       rw [store_Put.a2] at H
       subst H
       have hin : i = l1.length := by have := HK.out; omega
       clear HA HK
       subst hin
       have d1 : decide ((l1.length : Int) < (l1.length : Int)) = false := decide_eq_false (by omega)
       have d1n : decide (l1.length < l1.length) = false := decide_eq_false (by omega)
       have hczs := blk2 HSi.out
       go_wp2
       go_ret
       exact ⟨pE, blk_put HSi.out 1 _ rfl, Kd.S_far HU.out (p := ⟨gs, 1, none⟩) (fun _ hk => hk) _, below_set HBi.out HX.out.1, fun k a_ b_ c_ => (Below.heap_setCell _ ⟨gs, 1, none⟩ _ k b_).trans (HF.out.2 k a_ b_ c_)⟩
end Go.Proofs.Ytekmchjlnekliaa.Q
