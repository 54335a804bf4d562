/- StoreApart's walk: it returns true. -/
import Derived.Test.YtekmchjlnekliaaQxfBankCopied
import Derived.Test.YtekmchjlnekliaaQxfBankCopy
import Derived.Test.YtekmchjlnekliaaQxfLaw24Many
import Derived.Test.YtekmchjlnekliaaQxfPlainLong
import Derived.Test.YtekmchjlnekliaaQxfPlainWide
import Derived.Test.YtekmchjlnekliaaQxfRef07Same
import Derived.Test.YtekmchjlnekliaaQxfRef07Words
import Derived.Test.YtekmchjlnekliaaQxfRef18All
import Derived.Test.YtekmchjlnekliaaQxfRef18Same
import Derived.Test.YtekmchjlnekliaaQxfRef19Has
import Derived.Test.YtekmchjlnekliaaQxfStoreCopies
import Derived.Test.YtekmchjlnekliaaStoreNew
import Derived.Test.YtekmchjlnekliaaStoreGet
import Derived.Test.YtekmchjlnekliaaStorePut
import Derived.Test.YtekmchjlnekliaaStoreSame
import Derived.Test.YtekmchjlnekliaaStoreLaw
namespace Go.Proofs.Ytekmchjlnekliaa.Q
open Go.RowKit Go.Proofs.YtekmchjlnekliaaW.PrintWords Go.Proofs.YtekmchjlnekliaaW.PrintLast Go.Proofs.YtekmchjlnekliaaW.PrintMore
attribute [local go_sem] max2_int min2_int max_two min_two max_three min_three max_four min_four
set_option linter.unusedVariables false
set_option linter.unusedSimpArgs false
namespace Sa
theorem litW {P : Program} {ops : Array Oper} {o : Oper} {rest : List Oper} {a : Act} {Q : Exit → Act → World → Prop} {W : World} (hw : Region.wanted o (yielded ops a.tmps) = true) {N : Tmp} (_hd : o.dst = some N) {cs : Array Value} {t : TypeId} {n : Nat} (hrun : (execOp a.eval o).run P W = .ok (.value (.slice (some ⟨W.heap.size, 0, none⟩) n n)) (W.alloc (.cells cs t (0, 0))))
    (h : ∀ g, g = W.heap.size → ∀ w1, w1.heap[g]? = some (.cells cs t (0, 0)) → Below W.heap.size W w1 → wpList P ops Q rest (a.put o.dst (.slice (some ⟨g, 0, none⟩) n n)) w1) : wpList P ops Q (o :: rest) a W :=
  wpList_step fun K hK => by
    rw [if_pos hw]
    unfold Oper.wp
    rw [hrun]
    exact hK _ _ (h _ rfl _ (blk_new W _) (below_alloc (Below.refl _ _) _))
theorem actC {w : World} {g t : Nat} {a : Bool} {A1 : Option Addr} {c1 : Nat} {l1 : List Int} {A2 : Option Addr} {c2 : Nat} {l2 : List S43} (h : w.heap[g]? = some (.cells #[.bool a, .slice A1 l1.length c1, .slice A2 l2.length c2] t (0, 0))) (hc1 : l1.length ≤ c1) (hr1 : Kd.C (Kd.int .i64) w A1 l1.length l1) (hc2 : l2.length ≤ c2) (hr2 : Kd.C k43 w A2 l2.length l2) : Kd.C k25 w (some ⟨g, 0, none⟩) 1 [(⟨a, l1, l2⟩ : S25)] := by
  refine ⟨rfl, by simp, fun _ => ⟨_, rfl, fun j p hj => ?_⟩⟩
  match j with
  | 0 =>
    obtain rfl : (⟨a, l1, l2⟩ : S25) = p := by simpa using hj
    refine ⟨_, rfl, k25_mk w ⟨a, l1, l2⟩ hc1 hr1 hc2 hr2, fun i u hu => ?_⟩
    match i with
    | 0 => obtain rfl := Option.some.inj hu; exact (blk_cell h 0).trans rfl
    | 1 => obtain rfl := Option.some.inj hu; exact (blk_cell h 1).trans rfl
    | 2 => obtain rfl := Option.some.inj hu; exact (blk_cell h 2).trans rfl
    | i + 3 => simp at hu
  | j + 1 => simp at hj
theorem many1 (A : Option Addr) (x : S25) (r : Bool) (w : World) (h0 : Kd.C k25 w A 1 [x]) (h : gradinelaw24_many.f 200 [x] = some r) : Calls Try.prog 6 #[.slice A 1 1] w fun e w' => e = .returned (.bool r) ∧ Below w.heap.size w w' := gradinelaw24_many.calls 200 A 1 [x] r w h0 (Nat.le_refl _) h
theorem nilL (A : Option Addr) (c : Nat) (l : List S43) (h : l.length = 0) (w : World) : Calls Try.prog 8 #[.slice A l.length c] w fun e w' => e = .returned (.pointer none) ∧ Below w.heap.size w w' := by rw [h]; exact store_New.nil A c w
theorem info3 : (Try.prog.info? 3).map (fun i => (i.zero, i.size, i.bytes)) = some (some (.int .i64 0), 1, 8) := by kernel_rfl
theorem put (gs gr c : Nat) (V : List S43) (A1 : Option Addr) (c1 : Nat) (l1 : List Int) (A2 : Option Addr) (c2 : Nat) (l2 : List S43) (E : Int) (U : List S43) (w0 w : World)
  (hst : w.heap[gs]? = some (.cells #[.slice (some ⟨gr, 0, none⟩) V.length c, .int .i64 0] 57 (0, 0))) (hV : Kd.S k43 43 w w0.heap.size (fun k => k ≠ gs) (.slice (some ⟨gr, 0, none⟩) V.length c) V) (hX : w0.heap.size ≤ gs ∧ w0.heap.size ≤ gr ∧ gs ≠ gr) (h64 : V.length ≤ 64) (hn : l1.length ≤ 100) (hB : Below w0.heap.size w0 w) (hr1 : Kd.C (Kd.int .i64) w0 A1 l1.length l1) (hr2 : Kd.C k43 w0 A2 l2.length l2) (hs : ∀ x ∈ l2, St.sw x) (e_ : store_Put.f V l1 l2 = (E, U)) (hU : U.length = V.length) :
  Calls Try.prog 9 #[.pointer (some ⟨gs, 0, none⟩), .slice A1 l1.length c1, .slice A2 l2.length c2] w fun e w' => e = .returned (.int .i64 E) ∧ w'.heap[gs]? = some (.cells #[.slice (some ⟨gr, 0, none⟩) U.length c, .int .i64 (if E = 0 then 1 else 0)] 57 (0, 0)) ∧ Kd.S k43 43 w' w0.heap.size (fun k => k ≠ gs) (.slice (some ⟨gr, 0, none⟩) U.length c) U ∧ Below w0.heap.size w0 w' ∧ (∀ k, k < w.heap.size → k ≠ gs → k ≠ gr → w'.heap[k]? = w.heap[k]?) := by
  have h_ := store_Put.calls gs gr c V 0 (fun k => k ≠ gs) A1 c1 l1 A2 c2 l2 w0 w hst hV (fun _ h => h) hX.1 hX.2.1 hX.2.2 h64 (by omega) hB (fun w' b _ => Kd.C_below hr1 b) (fun w' b _ => Kd.C_below hr2 b) (fun hp ad e => by
    obtain ⟨ad', _, _, _, _, e', h0, _⟩ := at_T43 hr2 0 (by omega) (by omega)
    rw [e] at e'
    cases e'
    have h1 := World.block_lt_of_cell? w0 _ h0
    rw [show ((ad.add ((0 : Int).toNat * 5))).block = ad.block by unfold Addr.add; split <;> rfl] at h1
    have := hX.2.1
    omega) (fun x hx => ⟨by have := (hs x hx).1; omega, by have := (hs x hx).2; omega⟩)
  rw [e_] at h_
  refine h_.mono (fun e w' h => ⟨h.1, ?_, ?_, h.2.2.2.1, h.2.2.2.2⟩)
  · have h2 := h.2.1
    rw [hU]
    rw [show wrap64 ((0 : Int) + 1) = 1 from w64o (by omega) (by omega)] at h2
    exact h2
  · rw [hU]; exact h.2.2.1
set_option maxHeartbeats 8000000 in
set_option maxRecDepth 100000 in
theorem StoreApart_A (W : World) (A0 : Option Addr) (c0 : Nat) (l0 : List S43) (hr0 : Kd.C k43 W A0 l0.length l0) (hc0 : l0.length ≤ c0) (a1 : Bool) (A1 : Option Addr) (c1 : Nat) (l1 : List Int) (hr1 : Kd.C (Kd.int .i64) W A1 l1.length l1) (hc1 : l1.length ≤ c1) (A2 : Option Addr) (c2 : Nat) (l2 : List S43) (hr2 : Kd.C k43 W A2 l2.length l2) (hc2 : l2.length ≤ c2) (h : 64 < l0.length) :
  Calls Try.prog 3 #[.slice A0 l0.length c0, .agg #[.bool a1, .slice A1 l1.length c1, .slice A2 l2.length c2]] W fun e W' => e = .returned (.bool true) ∧ Below W.heap.size W W' := by
 have hu43 := Try.underlying43
 have hu57 := Try.underlying57
 have hu25 := Try.underlying25
 have HR0 := aM hr0
 have HR1 := aM hr1
 have HR2 := aM hr2
 have HC0 := aM hc0
 have HC1 := aM hc1
 have HC2 := aM hc2
 clear hr0 hr1 hr2 hc0 hc1 hc2
 have HB := aM (Below.refl W.heap.size W)
 have d1 : decide ((l0.length : Int) > 64) = true := decide_eq_true (by omega)
 have d2 : decide (64 < (l0.length : Int)) = true := decide_eq_true (by omega)
 have d3 : decide (64 < l0.length) = true := decide_eq_true (by omega)
 go_enter Try.func3, Try.ntmps3
 go_wp2_with (first | ((with_reducible refine gate_dst (N := 3) rfl ?_); refine box_event ?hg (N := 3) ?hd (cs := #[.bool a1, .slice A1 l1.length c1, .slice A2 l2.length c2]) (t := 25) ?hr ?_; (case hd => rfl); (case hg => rfl); (case hr => first | (go_simp; done) | (go_simp; rfl)); intro ga hg w3 hbox hb; have BA := aM hbox; have GA := gE (w := W) hg (qB HB); replace HB := bS (qB HB) hb; have hczs := blk3 BA.out; clear hg hbox hb) | (go_at_call 7; (with_reducible refine (gradinelaw24_same.calls _).mono ?_); rintro e w7 ⟨rfl, hb⟩; replace BA := bK BA hb; replace HB := bS (qB HB) hb; replace hczs := blk3 BA.out; clear hb))
 go_ret
 exact ⟨pE, qB HB⟩
set_option maxHeartbeats 8000000 in
set_option maxRecDepth 100000 in
theorem StoreApart_B (W : World) (A0 : Option Addr) (c0 : Nat) (l0 : List S43) (hr0 : Kd.C k43 W A0 l0.length l0) (hc0 : l0.length ≤ c0) (a1 : Bool) (A1 : Option Addr) (c1 : Nat) (l1 : List Int) (hr1 : Kd.C (Kd.int .i64) W A1 l1.length l1) (hc1 : l1.length ≤ c1) (A2 : Option Addr) (c2 : Nat) (l2 : List S43) (hr2 : Kd.C k43 W A2 l2.length l2) (hc2 : l2.length ≤ c2) (h : l0.length ≤ 64) (hw : gradineplain_Wide.f 100 l0 9 = some true) :
  Calls Try.prog 3 #[.slice A0 l0.length c0, .agg #[.bool a1, .slice A1 l1.length c1, .slice A2 l2.length c2]] W fun e W' => e = .returned (.bool true) ∧ Below W.heap.size W W' := by
 have AW := aM hw
 clear hw
 have hu43 := Try.underlying43
 have hu57 := Try.underlying57
 have hu25 := Try.underlying25
 have HR0 := aM hr0
 have HR1 := aM hr1
 have HR2 := aM hr2
 have HC0 := aM hc0
 have HC1 := aM hc1
 have HC2 := aM hc2
 clear hr0 hr1 hr2 hc0 hc1 hc2
 have HB := aM (Below.refl W.heap.size W)
 have d1 : decide ((l0.length : Int) > 64) = false := decide_eq_false (by omega)
 have d2 : decide (64 < (l0.length : Int)) = false := decide_eq_false (by omega)
 have d3 : decide (64 < l0.length) = false := decide_eq_false (by omega)
 go_enter Try.func3, Try.ntmps3
 go_wp2_with (first | ((with_reducible refine gate_dst (N := 3) rfl ?_); refine box_event ?hg (N := 3) ?hd (cs := #[.bool a1, .slice A1 l1.length c1, .slice A2 l2.length c2]) (t := 25) ?hr ?_; (case hd => rfl); (case hg => rfl); (case hr => first | (go_simp; done) | (go_simp; rfl)); intro ga hg w3 hbox hb; have BA := aM hbox; have GA := gE (w := W) hg (qB HB); replace HB := bS (qB HB) hb; have hczs := blk3 BA.out; clear hg hbox hb) | (go_at_call 5; (with_reducible refine (gradineplain_Wide.calls 100 _ _ l0 9 true _ ?s1 ?s2 AW.out).mono ?_); (case s1 => exact Kd.C_below HR0.out (qB HB)); (case s2 => exact HC0.out); rintro e w4 ⟨rfl, hb⟩; replace BA := bK BA hb; replace HB := bS (qB HB) hb; replace hczs := blk3 BA.out; clear hb) | (go_at_call 7; (with_reducible refine (gradinelaw24_same.calls _).mono ?_); rintro e w7 ⟨rfl, hb⟩; replace BA := bK BA hb; replace HB := bS (qB HB) hb; replace hczs := blk3 BA.out; clear hb))
 go_ret
 exact ⟨pE, qB HB⟩
set_option maxHeartbeats 8000000 in
set_option maxRecDepth 100000 in
theorem StoreApart_C (W : World) (A0 : Option Addr) (c0 : Nat) (l0 : List S43) (hr0 : Kd.C k43 W A0 l0.length l0) (hc0 : l0.length ≤ c0) (a1 : Bool) (A1 : Option Addr) (c1 : Nat) (l1 : List Int) (hr1 : Kd.C (Kd.int .i64) W A1 l1.length l1) (hc1 : l1.length ≤ c1) (A2 : Option Addr) (c2 : Nat) (l2 : List S43) (hr2 : Kd.C k43 W A2 l2.length l2) (hc2 : l2.length ≤ c2) (h : l0.length ≤ 64) (hw : gradineplain_Wide.f 100 l0 9 = some false) (hm : gradinelaw24_many.f 200 [(⟨a1, l1, l2⟩ : S25)] = some true) :
  Calls Try.prog 3 #[.slice A0 l0.length c0, .agg #[.bool a1, .slice A1 l1.length c1, .slice A2 l2.length c2]] W fun e W' => e = .returned (.bool true) ∧ Below W.heap.size W W' := by
 have AW := aM hw
 have AM := aM hm
 clear hw hm
 have hu43 := Try.underlying43
 have hu57 := Try.underlying57
 have hu25 := Try.underlying25
 have HR0 := aM hr0
 have HR1 := aM hr1
 have HR2 := aM hr2
 have HC0 := aM hc0
 have HC1 := aM hc1
 have HC2 := aM hc2
 clear hr0 hr1 hr2 hc0 hc1 hc2
 have HB := aM (Below.refl W.heap.size W)
 have d1 : decide ((l0.length : Int) > 64) = false := decide_eq_false (by omega)
 have d2 : decide (64 < (l0.length : Int)) = false := decide_eq_false (by omega)
 have d3 : decide (64 < l0.length) = false := decide_eq_false (by omega)
 go_enter Try.func3, Try.ntmps3
 go_wp2_with (first | ((with_reducible refine gate_dst (N := 3) rfl ?_); refine box_event ?hg (N := 3) ?hd (cs := #[.bool a1, .slice A1 l1.length c1, .slice A2 l2.length c2]) (t := 25) ?hr ?_; (case hd => rfl); (case hg => rfl); (case hr => first | (go_simp; done) | (go_simp; rfl)); intro ga hg w3 hbox hb; have BA := aM hbox; have GA := gE (w := W) hg (qB HB); replace HB := bS (qB HB) hb; have hczs := blk3 BA.out; clear hg hbox hb) | (go_at_call 5; (with_reducible refine (gradineplain_Wide.calls 100 _ _ l0 9 false _ ?s1 ?s2 AW.out).mono ?_); (case s1 => exact Kd.C_below HR0.out (qB HB)); (case s2 => exact HC0.out); rintro e w4 ⟨rfl, hb⟩; replace BA := bK BA hb; replace HB := bS (qB HB) hb; replace hczs := blk3 BA.out; clear hb) | ((with_reducible refine gate_dst (N := 23) rfl ?_); refine litW ?hg (N := 23) ?hd (cs := #[.bool a1, .slice A1 l1.length c1, .slice A2 l2.length c2]) (t := 25) (n := 1) ?hr ?_; (case hd => rfl); (case hg => rfl); (case hr => first | (go_simp; done) | (go_simp; rfl)); intro gl hg w5 hbox hb; have BL := aM hbox; replace BA := bK BA hb; replace HB := bS (qB HB) hb; replace hczs := blk3 BA.out; clear hg hbox hb) | (go_at_call 6; (with_reducible refine (many1 _ (⟨a1, l1, l2⟩ : S25) true _ ?s1 AM.out).mono ?_); (case s1 => exact actC BL.out HC1.out (Kd.C_below HR1.out (qB HB)) HC2.out (Kd.C_below HR2.out (qB HB))); rintro e w6 ⟨rfl, hb⟩; replace BA := bK BA hb; replace HB := bS (qB HB) hb; replace hczs := blk3 BA.out; clear hb BL) | (go_at_call 7; (with_reducible refine (gradinelaw24_same.calls _).mono ?_); rintro e w7 ⟨rfl, hb⟩; replace BA := bK BA hb; replace HB := bS (qB HB) hb; replace hczs := blk3 BA.out; clear hb))
 go_ret
 exact ⟨pE, qB HB⟩
set_option maxHeartbeats 8000000 in
set_option maxRecDepth 100000 in
theorem StoreApart_D (W : World) (A0 : Option Addr) (c0 : Nat) (l0 : List S43) (hr0 : Kd.C k43 W A0 l0.length l0) (hc0 : l0.length ≤ c0) (a1 : Bool) (A1 : Option Addr) (c1 : Nat) (l1 : List Int) (hr1 : Kd.C (Kd.int .i64) W A1 l1.length l1) (hc1 : l1.length ≤ c1) (A2 : Option Addr) (c2 : Nat) (l2 : List S43) (hr2 : Kd.C k43 W A2 l2.length l2) (hc2 : l2.length ≤ c2) (hz : l0.length = 0) (h : l0.length ≤ 64) (hw : gradineplain_Wide.f 100 l0 9 = some false) (hm : gradinelaw24_many.f 200 [(⟨a1, l1, l2⟩ : S25)] = some false) :
  Calls Try.prog 3 #[.slice A0 l0.length c0, .agg #[.bool a1, .slice A1 l1.length c1, .slice A2 l2.length c2]] W fun e W' => e = .returned (.bool true) ∧ Below W.heap.size W W' := by
 have AW := aM hw
 have AM := aM hm
 have HZ := aM hz
 clear hw hm
 have hu43 := Try.underlying43
 have hu57 := Try.underlying57
 have hu25 := Try.underlying25
 have HR0 := aM hr0
 have HR1 := aM hr1
 have HR2 := aM hr2
 have HC0 := aM hc0
 have HC1 := aM hc1
 have HC2 := aM hc2
 clear hr0 hr1 hr2 hc0 hc1 hc2
 have HB := aM (Below.refl W.heap.size W)
 have d1 : decide ((l0.length : Int) > 64) = false := decide_eq_false (by omega)
 have d2 : decide (64 < (l0.length : Int)) = false := decide_eq_false (by omega)
 have d3 : decide (64 < l0.length) = false := decide_eq_false (by omega)
 have z1 : ((l0.length : Int) == 0) = true := beq_iff_eq.mpr (by omega)
 have z2 : decide ((l0.length : Int) = 0) = true := decide_eq_true (by omega)
 have z3 : (l0.length == 0) = true := beq_iff_eq.mpr (by omega)
 have z4 : decide (l0.length = 0) = true := decide_eq_true (by omega)
 clear hz
 go_enter Try.func3, Try.ntmps3
 go_wp2_with (first | ((with_reducible refine gate_dst (N := 3) rfl ?_); refine box_event ?hg (N := 3) ?hd (cs := #[.bool a1, .slice A1 l1.length c1, .slice A2 l2.length c2]) (t := 25) ?hr ?_; (case hd => rfl); (case hg => rfl); (case hr => first | (go_simp; done) | (go_simp; rfl)); intro ga hg w3 hbox hb; have BA := aM hbox; have GA := gE (w := W) hg (qB HB); replace HB := bS (qB HB) hb; have hczs := blk3 BA.out; clear hg hbox hb) | (go_at_call 5; (with_reducible refine (gradineplain_Wide.calls 100 _ _ l0 9 false _ ?s1 ?s2 AW.out).mono ?_); (case s1 => exact Kd.C_below HR0.out (qB HB)); (case s2 => exact HC0.out); rintro e w4 ⟨rfl, hb⟩; replace BA := bK BA hb; replace HB := bS (qB HB) hb; replace hczs := blk3 BA.out; clear hb) | ((with_reducible refine gate_dst (N := 23) rfl ?_); refine litW ?hg (N := 23) ?hd (cs := #[.bool a1, .slice A1 l1.length c1, .slice A2 l2.length c2]) (t := 25) (n := 1) ?hr ?_; (case hd => rfl); (case hg => rfl); (case hr => first | (go_simp; done) | (go_simp; rfl)); intro gl hg w5 hbox hb; have BL := aM hbox; replace BA := bK BA hb; replace HB := bS (qB HB) hb; replace hczs := blk3 BA.out; clear hg hbox hb) | (go_at_call 6; (with_reducible refine (many1 _ (⟨a1, l1, l2⟩ : S25) false _ ?s1 AM.out).mono ?_); (case s1 => exact actC BL.out HC1.out (Kd.C_below HR1.out (qB HB)) HC2.out (Kd.C_below HR2.out (qB HB))); rintro e w6 ⟨rfl, hb⟩; replace BA := bK BA hb; replace HB := bS (qB HB) hb; replace hczs := blk3 BA.out; clear hb BL) | ((with_reducible refine gate_callee (f := 8) rfl ?_); refine goesL_ (some 28) rfl rfl Try.func8 (by kernel_rfl) rfl #[.slice A0 l0.length c0] rfl pA ?_; (with_reducible refine (nilL _ _ _ HZ.out _).mono ?_); rintro e w8 ⟨rfl, hb⟩; refine ⟨_, rfl, ?_⟩; replace BA := bK BA hb; replace HB := bS (qB HB) hb; replace hczs := blk3 BA.out; clear hb) | (go_at_call 7; (with_reducible refine (gradinelaw24_same.calls _).mono ?_); rintro e w7 ⟨rfl, hb⟩; replace BA := bK BA hb; replace HB := bS (qB HB) hb; replace hczs := blk3 BA.out; clear hb))
 go_ret
 exact ⟨pE, qB HB⟩
end Sa
end Go.Proofs.Ytekmchjlnekliaa.Q
