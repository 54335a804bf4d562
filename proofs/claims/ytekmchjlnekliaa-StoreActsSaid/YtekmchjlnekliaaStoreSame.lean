/- The store's methods: what they compute, and that they compute it. -/
import Derived.Test.YtekmchjlnekliaaQxfBankCopied
import Derived.Test.YtekmchjlnekliaaQxfBankCopy
import Derived.Test.YtekmchjlnekliaaQxfLaw24Many
import Derived.Test.YtekmchjlnekliaaQxfPlainLong
import Derived.Test.YtekmchjlnekliaaQxfPlainWide
import Derived.Test.YtekmchjlnekliaaQxfRef07Same
import Derived.Test.YtekmchjlnekliaaQxfRef07Words
import Derived.Test.YtekmchjlnekliaaQxfRef18All
import Derived.Test.YtekmchjlnekliaaQxfRef18Same
import Derived.Test.YtekmchjlnekliaaQxfRef19Has
import Derived.Test.YtekmchjlnekliaaQxfStoreCopies
import Derived.Test.YtekmchjlnekliaaStoreNew
import Derived.Test.YtekmchjlnekliaaStoreGet
import Derived.Test.YtekmchjlnekliaaStorePut
namespace Go.Proofs.Ytekmchjlnekliaa.Q
open Go.RowKit Go.Proofs.YtekmchjlnekliaaW.PrintWords Go.Proofs.YtekmchjlnekliaaW.PrintLast Go.Proofs.YtekmchjlnekliaaW.PrintMore
attribute [local go_sem] max2_int min2_int max_two min_two max_three min_three max_four min_four
set_option linter.unusedVariables false
set_option linter.unusedSimpArgs false
section
variable {P : Program} {ops : Array Oper} {o : Oper} {rest : List Oper} {a : Act} {Q : Exit → Act → World → Prop}
theorem sl.lit {W : World} (hgd : o.guard = none) {N : Tmp} (_hd : o.dst = some N) {cs : Array Value} {t : TypeId} {n : Nat} (hrun : (execOp a.eval o).run P W = .ok (.value (.slice (some ⟨W.heap.size, 0, none⟩) n n)) (W.alloc (.cells cs t (0, 0))))
    (h : ∀ g, g = W.heap.size → ∀ w1, w1.heap[g]? = some (.cells cs t (0, 0)) → Below W.heap.size W w1 → wpList P ops Q rest (a.put o.dst (.slice (some ⟨g, 0, none⟩) n n)) w1) : wpList P ops Q (o :: rest) a W :=
  Kd.event_run hgd hrun (h _ rfl _ (blk_new W _) (below_alloc (Below.refl _ _) _))
end
def vB (b : Int) : S43 := ⟨⟨false, [], []⟩, b, 0⟩
theorem nilC (w : World) : (Kd.int .u64).C w none 0 ([] : List Int) := ⟨rfl, by simp, fun h => absurd h (by simp)⟩
theorem vBK (w : World) (b : Int) : k43.K w (vB b) [.bool false, .slice none 0 0, .slice none 0 0, .int .u64 b, .int .i64 0] := k43_mk w (vB b) (A1 := none) (c1 := 0) (Nat.le_refl _) (nilC w) (A2 := none) (c2 := 0) (Nat.le_refl _) (nilC w)
theorem lit2C {w : World} {g t : Nat} {b0 b1 : Int} (h : w.heap[g]? = some (.cells #[.bool false, .slice none 0 0, .slice none 0 0, .int .u64 b0, .int .i64 0, .bool false, .slice none 0 0, .slice none 0 0, .int .u64 b1, .int .i64 0] t (0, 0))) : Kd.C k43 w (some ⟨g, 0, none⟩) 2 [vB b0, vB b1] := by
  refine ⟨rfl, by simp, fun _ => ⟨_, rfl, fun j p hj => ?_⟩⟩
  match j with
  | 0 =>
    obtain rfl : vB b0 = p := by simpa using hj
    refine ⟨_, rfl, vBK w b0, fun i u hu => ?_⟩
    match i with
    | 0 => obtain rfl := Option.some.inj hu; exact (blk_cell h 0).trans rfl
    | 1 => obtain rfl := Option.some.inj hu; exact (blk_cell h 1).trans rfl
    | 2 => obtain rfl := Option.some.inj hu; exact (blk_cell h 2).trans rfl
    | 3 => obtain rfl := Option.some.inj hu; exact (blk_cell h 3).trans rfl
    | 4 => obtain rfl := Option.some.inj hu; exact (blk_cell h 4).trans rfl
    | i + 5 => simp at hu
  | 1 =>
    obtain rfl : vB b1 = p := by simpa using hj
    refine ⟨_, rfl, vBK w b1, fun i u hu => ?_⟩
    match i with
    | 0 => obtain rfl := Option.some.inj hu; exact (blk_cell h 5).trans rfl
    | 1 => obtain rfl := Option.some.inj hu; exact (blk_cell h 6).trans rfl
    | 2 => obtain rfl := Option.some.inj hu; exact (blk_cell h 7).trans rfl
    | 3 => obtain rfl := Option.some.inj hu; exact (blk_cell h 8).trans rfl
    | 4 => obtain rfl := Option.some.inj hu; exact (blk_cell h 9).trans rfl
    | i + 5 => simp at hu
  | j + 2 => simp at hj
theorem lit3C {w : World} {g t : Nat} {b0 b1 b2 : Int} (h : w.heap[g]? = some (.cells #[.bool false, .slice none 0 0, .slice none 0 0, .int .u64 b0, .int .i64 0, .bool false, .slice none 0 0, .slice none 0 0, .int .u64 b1, .int .i64 0, .bool false, .slice none 0 0, .slice none 0 0, .int .u64 b2, .int .i64 0] t (0, 0))) : Kd.C k43 w (some ⟨g, 0, none⟩) 3 [vB b0, vB b1, vB b2] := by
  refine ⟨rfl, by simp, fun _ => ⟨_, rfl, fun j p hj => ?_⟩⟩
  match j with
  | 0 =>
    obtain rfl : vB b0 = p := by simpa using hj
    refine ⟨_, rfl, vBK w b0, fun i u hu => ?_⟩
    match i with
    | 0 => obtain rfl := Option.some.inj hu; exact (blk_cell h 0).trans rfl
    | 1 => obtain rfl := Option.some.inj hu; exact (blk_cell h 1).trans rfl
    | 2 => obtain rfl := Option.some.inj hu; exact (blk_cell h 2).trans rfl
    | 3 => obtain rfl := Option.some.inj hu; exact (blk_cell h 3).trans rfl
    | 4 => obtain rfl := Option.some.inj hu; exact (blk_cell h 4).trans rfl
    | i + 5 => simp at hu
  | 1 =>
    obtain rfl : vB b1 = p := by simpa using hj
    refine ⟨_, rfl, vBK w b1, fun i u hu => ?_⟩
    match i with
    | 0 => obtain rfl := Option.some.inj hu; exact (blk_cell h 5).trans rfl
    | 1 => obtain rfl := Option.some.inj hu; exact (blk_cell h 6).trans rfl
    | 2 => obtain rfl := Option.some.inj hu; exact (blk_cell h 7).trans rfl
    | 3 => obtain rfl := Option.some.inj hu; exact (blk_cell h 8).trans rfl
    | 4 => obtain rfl := Option.some.inj hu; exact (blk_cell h 9).trans rfl
    | i + 5 => simp at hu
  | 2 =>
    obtain rfl : vB b2 = p := by simpa using hj
    refine ⟨_, rfl, vBK w b2, fun i u hu => ?_⟩
    match i with
    | 0 => obtain rfl := Option.some.inj hu; exact (blk_cell h 10).trans rfl
    | 1 => obtain rfl := Option.some.inj hu; exact (blk_cell h 11).trans rfl
    | 2 => obtain rfl := Option.some.inj hu; exact (blk_cell h 12).trans rfl
    | 3 => obtain rfl := Option.some.inj hu; exact (blk_cell h 13).trans rfl
    | 4 => obtain rfl := Option.some.inj hu; exact (blk_cell h 14).trans rfl
    | i + 5 => simp at hu
  | j + 3 => simp at hj
theorem int2C {w : World} {g t : Nat} {b0 b1 : Int} (h : w.heap[g]? = some (.cells #[.int .i64 b0, .int .i64 b1] t (0, 0))) : Kd.C (Kd.int .i64) w (some ⟨g, 0, none⟩) 2 [b0, b1] := by
  refine ⟨rfl, by simp, fun _ => ⟨_, rfl, fun j p hj => ?_⟩⟩
  match j with
  | 0 =>
    obtain rfl : b0 = p := by simpa using hj
    refine ⟨_, rfl, rfl, fun i u hu => ?_⟩
    match i with
    | 0 => obtain rfl := Option.some.inj hu; exact (blk_cell h 0).trans rfl
    | i + 1 => simp at hu
  | 1 =>
    obtain rfl : b1 = p := by simpa using hj
    refine ⟨_, rfl, rfl, fun i u hu => ?_⟩
    match i with
    | 0 => obtain rfl := Option.some.inj hu; exact (blk_cell h 1).trans rfl
    | i + 1 => simp at hu
  | j + 2 => simp at hj
theorem int3C {w : World} {g t : Nat} {b0 b1 b2 : Int} (h : w.heap[g]? = some (.cells #[.int .i64 b0, .int .i64 b1, .int .i64 b2] t (0, 0))) : Kd.C (Kd.int .i64) w (some ⟨g, 0, none⟩) 3 [b0, b1, b2] := by
  refine ⟨rfl, by simp, fun _ => ⟨_, rfl, fun j p hj => ?_⟩⟩
  match j with
  | 0 =>
    obtain rfl : b0 = p := by simpa using hj
    refine ⟨_, rfl, rfl, fun i u hu => ?_⟩
    match i with
    | 0 => obtain rfl := Option.some.inj hu; exact (blk_cell h 0).trans rfl
    | i + 1 => simp at hu
  | 1 =>
    obtain rfl : b1 = p := by simpa using hj
    refine ⟨_, rfl, rfl, fun i u hu => ?_⟩
    match i with
    | 0 => obtain rfl := Option.some.inj hu; exact (blk_cell h 1).trans rfl
    | i + 1 => simp at hu
  | 2 =>
    obtain rfl : b2 = p := by simpa using hj
    refine ⟨_, rfl, rfl, fun i u hu => ?_⟩
    match i with
    | 0 => obtain rfl := Option.some.inj hu; exact (blk_cell h 2).trans rfl
    | i + 1 => simp at hu
  | j + 3 => simp at hj
theorem same_copies : store_copies.f 5 [vB 1, vB 2, vB 3] = some [vB 1, vB 2, vB 3] := by kernel_rfl
theorem same_get : store_Get.f 5 [vB 8, vB 2, vB 7] [0, 1, 2] = some ([vB 8, vB 2, vB 7], 0) := by kernel_rfl
theorem same_cell {w : World} {g : Nat} {l : List S43} (h : Kd.C k43 w (some ⟨g, 0, none⟩) l.length l) (i : Nat) (hi : i < l.length) (hz : True) : w.cell? ⟨g, i * 5 + 3, none⟩ = some (.int .u64 (rd_T43 l (i : Int)).f1) := by
  obtain ⟨ad, A1, c1, A2, c2, e, h0, h1, h2, h3, h4, _⟩ := at_T43 h (i : Int) (by omega) (by omega)
  cases e
  rw [Int.toNat_natCast] at h3
  have ea : ((⟨g, 0, none⟩ : Addr).add (i * 5)) = ⟨g, i * 5, none⟩ := by unfold Addr.add; split <;> simp_all
  rw [ea] at h3
  exact h3
theorem same_new (g9 : Nat) (w : World) (h : w.heap[g9]? = some (.cells #[.bool false, .slice none 0 0, .slice none 0 0, .int .u64 1, .int .i64 0, .bool false, .slice none 0 0, .slice none 0 0, .int .u64 2, .int .i64 0, .bool false, .slice none 0 0, .slice none 0 0, .int .u64 3, .int .i64 0] 43 (0, 0))) : Calls Try.prog 8 #[.slice (some ⟨g9, 0, none⟩) 3 3] w fun e w' => ∃ gs gr c : Nat, e = .returned (.pointer (some ⟨gs, 0, none⟩)) ∧ w'.heap[gs]? = some (.cells #[.slice (some ⟨gr, 0, none⟩) 3 c, .int .i64 0] 57 (0, 0)) ∧ w.heap.size ≤ gs ∧ w.heap.size ≤ gr ∧ gs ≠ gr ∧ Kd.S k43 43 w' w.heap.size (fun k => k ≠ gs) (.slice (some ⟨gr, 0, none⟩) 3 c) [vB 1, vB 2, vB 3] ∧ Below w.heap.size w w' := by
  refine (store_New.calls 5 (some ⟨g9, 0, none⟩) 3 [vB 1, vB 2, vB 3] [vB 1, vB 2, vB 3] w (lit3C h) (by decide) (by decide) (by decide) same_copies).mono ?_
  rintro e w' ⟨gs, v, rfl, hbs, hge, hS, hb⟩
  obtain ⟨gr, c, rfl, hgr, _, _⟩ := Kd.S_form hS (by decide)
  exact ⟨gs, gr, c, rfl, hbs, hge, hgr, fun e_ => Kd.S_ne hS hbs (by decide) (by rw [e_]; simp [Value.ownBlock]), hS, hb⟩
theorem same_got (gs gr c g : Nat) (w : World) (hst : w.heap[gs]? = some (.cells #[.slice (some ⟨gr, 0, none⟩) 3 c, .int .i64 1] 57 (0, 0))) (hV : Kd.C k43 w (some ⟨gr, 0, none⟩) 3 [vB 8, vB 2, vB 7]) (h : w.heap[g]? = some (.cells #[.int .i64 0, .int .i64 1, .int .i64 2] 3 (0, 0))) :
  Calls Try.prog 10 #[.pointer (some ⟨gs, 0, none⟩), .slice (some ⟨g, 0, none⟩) 3 3] w fun e w' => ∃ v0_ : Value, e = .returned (.tuple #[v0_, .int .i64 0]) ∧ Kd.S k43 43 w' w.heap.size (fun _ => True) v0_ [vB 8, vB 2, vB 7] ∧ Below w.heap.size w w' :=
  store_Get.calls 5 gs (some ⟨gr, 0, none⟩) c [vB 8, vB 2, vB 7] 1 (some ⟨g, 0, none⟩) 3 [0, 1, 2] [vB 8, vB 2, vB 7] 0 w hst hV (int3C h) same_get
theorem same_puta (gs gr c gi gv : Nat) (w0 w : World) (hst : w.heap[gs]? = some (.cells #[.slice (some ⟨gr, 0, none⟩) 3 c, .int .i64 0] 57 (0, 0))) (hV : Kd.S k43 43 w w0.heap.size (fun k => k ≠ gs) (.slice (some ⟨gr, 0, none⟩) 3 c) [vB 1, vB 2, vB 3]) (hx : w0.heap.size ≤ gs ∧ w0.heap.size ≤ gr ∧ gs ≠ gr)
  (hi : w.heap[gi]? = some (.cells #[.int .i64 2, .int .i64 0] 3 (0, 0))) (hv : w.heap[gv]? = some (.cells #[.bool false, .slice none 0 0, .slice none 0 0, .int .u64 7, .int .i64 0, .bool false, .slice none 0 0, .slice none 0 0, .int .u64 8, .int .i64 0] 43 (0, 0))) (ni : gi ≠ gs ∧ gi ≠ gr) (nv : gv ≠ gs ∧ gv ≠ gr) (hB : Below w0.heap.size w0 w) :
  Calls Try.prog 9 #[.pointer (some ⟨gs, 0, none⟩), .slice (some ⟨gi, 0, none⟩) 2 2, .slice (some ⟨gv, 0, none⟩) 2 2] w fun e w' => e = .returned (.int .i64 0) ∧ w'.heap[gs]? = some (.cells #[.slice (some ⟨gr, 0, none⟩) 3 c, .int .i64 1] 57 (0, 0)) ∧ Kd.S k43 43 w' w0.heap.size (fun k => k ≠ gs) (.slice (some ⟨gr, 0, none⟩) 3 c) [vB 8, vB 2, vB 7] ∧ Below w0.heap.size w0 w' := by
  have e_ : store_Put.f [vB 1, vB 2, vB 3] [2, 0] [vB 7, vB 8] = (0, [vB 8, vB 2, vB 7]) := by kernel_rfl
  have h_ := store_Put.calls gs gr c [vB 1, vB 2, vB 3] 0 (fun k => k ≠ gs) (some ⟨gi, 0, none⟩) 2 [2, 0] (some ⟨gv, 0, none⟩) 2 [vB 7, vB 8] w0 w hst hV (fun _ h => h) hx.1 hx.2.1 hx.2.2 (by decide) (by decide) hB (fun w' _ ag => int2C ((ag gi (blk_lt hi) ni.1 ni.2).trans hi)) (fun w' _ ag => lit2C ((ag gv (blk_lt hv) nv.1 nv.2).trans hv)) (fun _ ad e => by cases e; exact nv.2) (by simp [vB])
  rw [e_] at h_
  exact h_.mono (fun e w' h => ⟨h.1, by have h2 := h.2.1; first | exact h2 | simpa [wrap64] using h2, h.2.2.1, h.2.2.2.1⟩)
theorem same_putb (gs gr c gi gv : Nat) (w0 w : World) (hst : w.heap[gs]? = some (.cells #[.slice (some ⟨gr, 0, none⟩) 3 c, .int .i64 1] 57 (0, 0))) (hV : Kd.S k43 43 w w0.heap.size (fun k => k ≠ gs) (.slice (some ⟨gr, 0, none⟩) 3 c) [vB 8, vB 2, vB 7]) (hx : w0.heap.size ≤ gs ∧ w0.heap.size ≤ gr ∧ gs ≠ gr)
  (hi : w.heap[gi]? = some (.cells #[.int .i64 1, .int .i64 1] 3 (0, 0))) (hv : w.heap[gv]? = some (.cells #[.bool false, .slice none 0 0, .slice none 0 0, .int .u64 7, .int .i64 0, .bool false, .slice none 0 0, .slice none 0 0, .int .u64 8, .int .i64 0] 43 (0, 0))) (ni : gi ≠ gs ∧ gi ≠ gr) (nv : gv ≠ gs ∧ gv ≠ gr) (hB : Below w0.heap.size w0 w) :
  Calls Try.prog 9 #[.pointer (some ⟨gs, 0, none⟩), .slice (some ⟨gi, 0, none⟩) 2 2, .slice (some ⟨gv, 0, none⟩) 2 2] w fun e w' => e = .returned (.int .i64 16) ∧ w'.heap[gs]? = some (.cells #[.slice (some ⟨gr, 0, none⟩) 3 c, .int .i64 1] 57 (0, 0)) ∧ Kd.S k43 43 w' w0.heap.size (fun k => k ≠ gs) (.slice (some ⟨gr, 0, none⟩) 3 c) [vB 8, vB 2, vB 7] ∧ Below w0.heap.size w0 w' := by
  have e_ : store_Put.f [vB 8, vB 2, vB 7] [1, 1] [vB 7, vB 8] = (16, [vB 8, vB 2, vB 7]) := by kernel_rfl
  have h_ := store_Put.calls gs gr c [vB 8, vB 2, vB 7] 1 (fun k => k ≠ gs) (some ⟨gi, 0, none⟩) 2 [1, 1] (some ⟨gv, 0, none⟩) 2 [vB 7, vB 8] w0 w hst hV (fun _ h => h) hx.1 hx.2.1 hx.2.2 (by decide) (by decide) hB (fun w' _ ag => int2C ((ag gi (blk_lt hi) ni.1 ni.2).trans hi)) (fun w' _ ag => lit2C ((ag gv (blk_lt hv) nv.1 nv.2).trans hv)) (fun _ ad e => by cases e; exact nv.2) (by simp [vB])
  rw [e_] at h_
  exact h_.mono (fun e w' h => ⟨h.1, by have h2 := h.2.1; first | exact h2 | simpa [wrap64] using h2, h.2.2.1, h.2.2.2.1⟩)
set_option maxHeartbeats 8000000 in
set_option maxRecDepth 100000 in
theorem gradinelaw24_same.calls (w : World) : Calls Try.prog 7 #[] w fun e w' => e = .returned (.bool true) ∧ Below w.heap.size w w' := by
 have hu43 := Try.underlying43
 have hu57 := Try.underlying57
 have HB := aM (Below.refl w.heap.size w)
 go_enter Try.func7, Try.ntmps7
 go_wp2_with (first | ((with_reducible refine gate_dst (N := 9) rfl ?_); refine sl.lit ?hg (N := 9) ?hd (cs := #[.bool false, .slice none 0 0, .slice none 0 0, .int .u64 1, .int .i64 0, .bool false, .slice none 0 0, .slice none 0 0, .int .u64 2, .int .i64 0, .bool false, .slice none 0 0, .slice none 0 0, .int .u64 3, .int .i64 0]) (t := 43) (n := 3) ?hr ?_; (case hd => rfl); (case hg => rfl); (case hr => first | (go_simp; done) | (go_simp; rfl)); intro g9 hg w_g9 hbox hb; have L9 := aM hbox; replace HB := bS (qB HB) hb; clear hg hbox hb) | ((with_reducible refine gate_callee (f := 8) rfl ?_); refine goesL_ (some 10) rfl rfl Try.func8 (by kernel_rfl) rfl #[.slice (some ⟨g9, 0, none⟩) 3 3] rfl pA ?_; (with_reducible refine (same_new g9 _ L9.out).mono ?_); skip; rintro e w10 ⟨gs, gr, c, rfl, hbs, hge, hgr, hne, hS, hb⟩; refine ⟨_, rfl, ?_⟩; have BS := aM hbs; have HV := aM (Kd.S_lower hS (below_size (qB HB))); have HX := aM (show w.heap.size ≤ gs ∧ w.heap.size ≤ gr ∧ gs ≠ gr from ⟨Nat.le_trans (below_size (qB HB)) hge, Nat.le_trans (below_size (qB HB)) hgr, hne⟩); replace HB := bS (qB HB) hb; clear hb hbs hge hS hgr hne L9) | ((with_reducible refine gate_dst (N := 12) rfl ?_); refine sl.lit ?hg (N := 12) ?hd (cs := #[.int .i64 2, .int .i64 0]) (t := 3) (n := 2) ?hr ?_; (case hd => rfl); (case hg => rfl); (case hr => first | (go_simp; done) | (go_simp; rfl)); intro gia hg w_gia hbox hb; have LIa := aM hbox; have NIa := aM (show gia ≠ gs ∧ gia ≠ gr from ⟨fun e_ => by have := blk_lt BS.out; omega, fun e_ => by have := Kd.S_lt HV.out gr (by simp [Value.ownBlock]); omega⟩); replace BS := bK BS hb; replace HV := aM (Kd.S_below (by (with_reducible repeat (first | apply Kd.S_alloc | apply Kd.S_drewN | apply Kd.S_drew)); exact HV.out) hb); replace HB := bS (qB HB) hb; clear hg hbox hb) | ((with_reducible refine gate_dst (N := 15) rfl ?_); refine sl.lit ?hg (N := 15) ?hd (cs := #[.bool false, .slice none 0 0, .slice none 0 0, .int .u64 7, .int .i64 0, .bool false, .slice none 0 0, .slice none 0 0, .int .u64 8, .int .i64 0]) (t := 43) (n := 2) ?hr ?_; (case hd => rfl); (case hg => rfl); (case hr => first | (go_simp; done) | (go_simp; rfl)); intro gva hg w_gva hbox hb; have LVa := aM hbox; have NVa := aM (show gva ≠ gs ∧ gva ≠ gr from ⟨fun e_ => by have := blk_lt BS.out; omega, fun e_ => by have := Kd.S_lt HV.out gr (by simp [Value.ownBlock]); omega⟩); replace LIa := bK LIa hb; replace BS := bK BS hb; replace HV := aM (Kd.S_below (by (with_reducible repeat (first | apply Kd.S_alloc | apply Kd.S_drewN | apply Kd.S_drew)); exact HV.out) hb); replace HB := bS (qB HB) hb; clear hg hbox hb) | ((with_reducible refine gate_callee (f := 9) rfl ?_); refine goesL_ (some 16) rfl rfl Try.func9 (by kernel_rfl) rfl #[.pointer (some ⟨gs, 0, none⟩), .slice (some ⟨gia, 0, none⟩) 2 2, .slice (some ⟨gva, 0, none⟩) 2 2] rfl pA ?_; (with_reducible refine (same_puta gs gr c gia gva w _ BS.out HV.out HX.out LIa.out LVa.out NIa.out NVa.out (qB HB)).mono ?_); skip; rintro e w16 ⟨rfl, hbs, hS, hbb⟩; refine ⟨_, rfl, ?_⟩; replace BS := aM hbs; replace HV := aM hS; replace HB := aM hbb; clear hbs hS hbb LIa LVa NIa NVa) | ((with_reducible refine gate_dst (N := 18) rfl ?_); refine sl.lit ?hg (N := 18) ?hd (cs := #[.int .i64 1, .int .i64 1]) (t := 3) (n := 2) ?hr ?_; (case hd => rfl); (case hg => rfl); (case hr => first | (go_simp; done) | (go_simp; rfl)); intro gib hg w_gib hbox hb; have LIb := aM hbox; have NIb := aM (show gib ≠ gs ∧ gib ≠ gr from ⟨fun e_ => by have := blk_lt BS.out; omega, fun e_ => by have := Kd.S_lt HV.out gr (by simp [Value.ownBlock]); omega⟩); replace BS := bK BS hb; replace HV := aM (Kd.S_below (by (with_reducible repeat (first | apply Kd.S_alloc | apply Kd.S_drewN | apply Kd.S_drew)); exact HV.out) hb); replace HB := bS (qB HB) hb; clear hg hbox hb) | ((with_reducible refine gate_dst (N := 21) rfl ?_); refine sl.lit ?hg (N := 21) ?hd (cs := #[.bool false, .slice none 0 0, .slice none 0 0, .int .u64 7, .int .i64 0, .bool false, .slice none 0 0, .slice none 0 0, .int .u64 8, .int .i64 0]) (t := 43) (n := 2) ?hr ?_; (case hd => rfl); (case hg => rfl); (case hr => first | (go_simp; done) | (go_simp; rfl)); intro gvb hg w_gvb hbox hb; have LVb := aM hbox; have NVb := aM (show gvb ≠ gs ∧ gvb ≠ gr from ⟨fun e_ => by have := blk_lt BS.out; omega, fun e_ => by have := Kd.S_lt HV.out gr (by simp [Value.ownBlock]); omega⟩); replace LIb := bK LIb hb; replace BS := bK BS hb; replace HV := aM (Kd.S_below (by (with_reducible repeat (first | apply Kd.S_alloc | apply Kd.S_drewN | apply Kd.S_drew)); exact HV.out) hb); replace HB := bS (qB HB) hb; clear hg hbox hb) | ((with_reducible refine gate_callee (f := 9) rfl ?_); refine goesL_ (some 22) rfl rfl Try.func9 (by kernel_rfl) rfl #[.pointer (some ⟨gs, 0, none⟩), .slice (some ⟨gib, 0, none⟩) 2 2, .slice (some ⟨gvb, 0, none⟩) 2 2] rfl pA ?_; (with_reducible refine (same_putb gs gr c gib gvb w _ BS.out HV.out HX.out LIb.out LVb.out NIb.out NVb.out (qB HB)).mono ?_); skip; rintro e w22 ⟨rfl, hbs, hS, hbb⟩; refine ⟨_, rfl, ?_⟩; replace BS := aM hbs; replace HV := aM hS; replace HB := aM hbb; clear hbs hS hbb LIb LVb NIb NVb) | ((with_reducible refine gate_dst (N := 25) rfl ?_); refine sl.lit ?hg (N := 25) ?hd (cs := #[.int .i64 0, .int .i64 1, .int .i64 2]) (t := 3) (n := 3) ?hr ?_; (case hd => rfl); (case hg => rfl); (case hr => first | (go_simp; done) | (go_simp; rfl)); intro g25 hg w_g25 hbox hb; have LG := aM hbox; replace BS := bK BS hb; replace HV := aM (Kd.S_below (by (with_reducible repeat (first | apply Kd.S_alloc | apply Kd.S_drewN | apply Kd.S_drew)); exact HV.out) hb); replace HB := bS (qB HB) hb; clear hg hbox hb) | ((with_reducible refine gate_callee (f := 10) rfl ?_); refine goesL_ (some 26) rfl rfl Try.func10 (by kernel_rfl) rfl #[.pointer (some ⟨gs, 0, none⟩), .slice (some ⟨g25, 0, none⟩) 3 3] rfl pA ?_; (with_reducible refine (same_got gs gr c g25 _ BS.out ?s1 LG.out).mono ?_); (case s1 => exact (Kd.S_reads' HV.out).2.2); rintro e w26 ⟨v4, rfl, ho, hb⟩; refine ⟨_, rfl, ?_⟩; obtain ⟨g4, c4, e4, _, _, _⟩ := Kd.S_form ho (by decide); subst e4; have HC4 := aM (Kd.S_reads' ho).2.2; replace BS := bK BS hb; replace HB := bS (qB HB) hb; clear hb ho LG HV; have k0 : w26.cell? ⟨g4, 3, none⟩ = some (.int .u64 8) := same_cell HC4.out 0 (by decide) (by decide); have k1 : w26.cell? ⟨g4, 8, none⟩ = some (.int .u64 2) := same_cell HC4.out 1 (by decide) (by decide); have k2 : w26.cell? ⟨g4, 13, none⟩ = some (.int .u64 7) := same_cell HC4.out 2 (by decide) (by decide)) | (go_at_call 13; (with_reducible refine (store_Version.calls gs _ 1 _ BS.out).mono ?_); rintro e w27 ⟨rfl, hb⟩; replace HB := bS (qB HB) hb; clear hb))
 go_ret
 exact ⟨pE, HB.out⟩
end Go.Proofs.Ytekmchjlnekliaa.Q
