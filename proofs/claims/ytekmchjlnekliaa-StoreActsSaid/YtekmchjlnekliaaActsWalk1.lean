/- StoreActs: the loop. -/
import Derived.Test.YtekmchjlnekliaaQxfBankCopied
import Derived.Test.YtekmchjlnekliaaQxfBankCopy
import Derived.Test.YtekmchjlnekliaaQxfLaw24Many
import Derived.Test.YtekmchjlnekliaaQxfPlainLong
import Derived.Test.YtekmchjlnekliaaQxfPlainWide
import Derived.Test.YtekmchjlnekliaaQxfRef07Same
import Derived.Test.YtekmchjlnekliaaQxfRef07Words
import Derived.Test.YtekmchjlnekliaaQxfRef18All
import Derived.Test.YtekmchjlnekliaaQxfRef18Same
import Derived.Test.YtekmchjlnekliaaQxfRef19Has
import Derived.Test.YtekmchjlnekliaaQxfStoreCopies
import Derived.Test.YtekmchjlnekliaaStoreNew
import Derived.Test.YtekmchjlnekliaaStoreGet
import Derived.Test.YtekmchjlnekliaaStorePut
import Derived.Test.YtekmchjlnekliaaStoreNil
import Derived.Test.YtekmchjlnekliaaStoreLaw
import Derived.Test.YtekmchjlnekliaaStoreSame
import Derived.Test.YtekmchjlnekliaaStoreRef0
import Derived.Test.YtekmchjlnekliaaStoreRef1
import Derived.Test.YtekmchjlnekliaaStoreLaw2
namespace Go.Proofs.Ytekmchjlnekliaa.Q
open Go.RowKit Go.Proofs.YtekmchjlnekliaaW.PrintWords Go.Proofs.YtekmchjlnekliaaW.PrintLast Go.Proofs.YtekmchjlnekliaaW.PrintMore
attribute [local go_sem] max2_int min2_int max_two min_two max_three min_three max_four min_four
set_option linter.unusedVariables false
set_option linter.unusedSimpArgs false
namespace Sb
theorem put2 (gs gr c : Nat) (V : List S43) (ver : Int) (ok : Nat → Prop) (A1 : Option Addr) (c1 : Nat) (l1 : List Int) (A2 : Option Addr) (c2 : Nat) (l2 : List S43) (E : Int) (U : List S43) (w0 w : World)
  (hst : w.heap[gs]? = some (.cells #[.slice (some ⟨gr, 0, none⟩) V.length c, .int .i64 ver] 57 (0, 0))) (hV : Kd.S k43 43 w w0.heap.size ok (.slice (some ⟨gr, 0, none⟩) V.length c) V) (hok : ∀ k, ok k → k ≠ gs) (hX : w0.heap.size ≤ gs ∧ w0.heap.size ≤ gr ∧ gs ≠ gr) (h64 : V.length ≤ 64) (hn : l1.length ≤ 100) (hB : Below w0.heap.size w0 w) (hr1 : Kd.C (Kd.int .i64) w0 A1 l1.length l1) (hr2 : Kd.C k43 w0 A2 l2.length l2) (hs : ∀ x ∈ l2, St.sw x) (e_ : store_Put.f V l1 l2 = (E, U)) (hU : U.length = V.length) :
  Calls Try.prog 9 #[.pointer (some ⟨gs, 0, none⟩), .slice A1 l1.length c1, .slice A2 l2.length c2] w fun e w' => e = .returned (.int .i64 E) ∧ w'.heap[gs]? = some (.cells #[.slice (some ⟨gr, 0, none⟩) U.length c, .int .i64 (if E = 0 then wrap64 (ver + 1) else ver)] 57 (0, 0)) ∧ Kd.S k43 43 w' w0.heap.size (fun k => k ≠ gs) (.slice (some ⟨gr, 0, none⟩) U.length c) U ∧ Below w0.heap.size w0 w' ∧ (∀ k, k < w.heap.size → k ≠ gs → k ≠ gr → w'.heap[k]? = w.heap[k]?) := by
  have h_ := store_Put.calls gs gr c V ver ok A1 c1 l1 A2 c2 l2 w0 w hst hV hok hX.1 hX.2.1 hX.2.2 h64 (by omega) hB (fun w' b _ => Kd.C_below hr1 b) (fun w' b _ => Kd.C_below hr2 b) (fun hp ad e => by
    obtain ⟨ad', _, _, _, _, e', h0, _⟩ := at_T43 hr2 0 (by omega) (by omega)
    rw [e] at e'
    cases e'
    have h1 := World.block_lt_of_cell? w0 _ h0
    rw [show ((ad.add ((0 : Int).toNat * 5))).block = ad.block by unfold Addr.add; split <;> rfl] at h1
    have := hX.2.1
    omega) (fun x hx => ⟨by have := (hs x hx).1; omega, by have := (hs x hx).2; omega⟩)
  rw [e_] at h_
  refine h_.mono (fun e w' h => ⟨h.1, ?_, ?_, h.2.2.2.1, h.2.2.2.2⟩)
  · rw [hU]; exact h.2.1
  · rw [hU]; exact h.2.2.1
/-- What both have, ahead of a round. -/
structure Inv (W w : World) (gs gr c gf : Nat) (V : List S43) (ver : Int) (A : Option Addr) (c' : Nat) : Prop where
  atS : w.heap[gs]? = some (.cells #[.slice (some ⟨gr, 0, none⟩) V.length c, .int .i64 ver] 57 (0, 0))
  row : Kd.S k43 43 w W.heap.size (fun k => k ≠ gs) (.slice (some ⟨gr, 0, none⟩) V.length c) V
  atF : w.heap[gf]? = some (.cells #[.slice A V.length c', .int .i64 ver] 48 (0, 0))
  ref : Rf.V W w (fun k => k ≠ gs ∧ k ≠ gr ∧ k ≠ gf) (.slice A V.length c') V
  bel : Below W.heap.size W w
theorem Inv.step {W w w1 : World} {gs gr c gf : Nat} {V : List S43} {ver : Int} {A : Option Addr} {c' : Nat} (h : Inv W w gs gr c gf V ver A c') (hb : Below w.heap.size w w1) : Inv W w1 gs gr c gf V ver A c' := ⟨blk_below h.atS hb, Kd.S_below h.row hb, blk_below h.atF hb, Rf.V_below h.ref hb, below_step h.bel hb⟩
theorem Inv.refC {W w : World} {gs gr c gf : Nat} {V : List S43} {ver : Int} {A : Option Addr} {c' : Nat} (h : Inv W w gs gr c gf V ver A c') : Kd.C (kE W) w A V.length V := (Rf.V_reads h.ref h.bel).2.2
theorem Inv.C {W w : World} {gs gr c gf : Nat} {V : List S43} {ver : Int} {A : Option Addr} {c' : Nat} (h : Inv W w gs gr c gf V ver A c') : Kd.C k43 w (some ⟨gr, 0, none⟩) V.length V := (Kd.S_reads' h.row).2.2
theorem Inv.ne {W w : World} {gs gr c gf : Nat} {V : List S43} {ver : Int} {A : Option Addr} {c' : Nat} (h : Inv W w gs gr c gf V ver A c') (h1 : 1 ≤ V.length) : gs ≠ gf ∧ gr ≠ gf ∧ gs ≠ gr := by
  obtain ⟨cs, hc⟩ := Kd.S_typed h.row gr (by simp [Value.ownBlock])
  have hf := h.atF
  have hg := h.atS
  exact ⟨(fun e => by rw [e] at hg; rw [hf] at hg; cases hg), (fun e => by rw [e] at hc; rw [hf] at hc; cases hc), (fun e => by rw [e] at hg; rw [hc] at hg; cases hg)⟩
/-- Behind the store's Put and the reference's. -/
theorem Inv.put {W w w1 w2 : World} {gs gr c gf : Nat} {V U : List S43} {ver ver' E : Int} {A : Option Addr} {c' : Nat} {e : Ending} (h : Inv W w gs gr c gf V ver A c') (h1 : 1 ≤ V.length) (hU : U.length = V.length) (hgs : W.heap.size ≤ gs) (hgr : W.heap.size ≤ gr) (hgf : W.heap.size ≤ gf)
  (hs : w1.heap[gs]? = some (.cells #[.slice (some ⟨gr, 0, none⟩) U.length c, .int .i64 ver'] 57 (0, 0))) (hS : Kd.S k43 43 w1 W.heap.size (fun k => k ≠ gs) (.slice (some ⟨gr, 0, none⟩) U.length c) U) (hb : Below W.heap.size W w1) (hf : ∀ k, k < w.heap.size → k ≠ gs → k ≠ gr → w1.heap[k]? = w.heap[k]?)
  (hv : ver' = if E = 0 then wrap64 (ver + 1) else ver) (hp : Rf.PP W w1 gf A c' V ver E U e w2) : e = .returned (.int .i64 E) ∧ ∃ A2 c2, Inv W w2 gs gr c gf U ver' A2 c2 := by
  obtain ⟨n1, n2, n3⟩ := h.ne h1
  have hgf1 := (hf gf (blk_lt h.atF) n1.symm n2.symm).trans h.atF
  rcases hp with ⟨he, ⟨hE, rfl, hb2⟩ | ⟨hE, A2, c2, k1, k2, k3, k4, k5⟩⟩
  · subst hv
    rw [if_neg hE] at hs ⊢
    refine ⟨he, A, c', Inv.step ⟨hs, hS, hgf1, Rf.V_step h.ref (fun k hk hl => hf k hl hk.1 hk.2.1), hb⟩ hb2⟩
  · subst hv
    rw [if_pos hE] at hs ⊢
    have hlr : gr < w1.heap.size := Kd.S_lt hS gr (by simp [Value.ownBlock])
    rw [← hU] at k1 k2
    exact ⟨he, A2, c2, (k5 gs (blk_lt hs) n1).trans hs, Kd.S_mono (Kd.S_step (Kd.S_types hS hgf1 (by decide)) (fun k hk hl => k5 k hl hk.2)) (fun _ hk => hk.1), k1, Or.inr (Kd.R_lower (Kd.R_mono (Kd.R_bound (Kd.S_R k2)) (fun k hk => by have h_ := hk.2.1; have a := blk_lt hs; have b := blk_lt hgf1; exact ⟨by omega, by omega, by omega⟩)) hb.size), k3⟩
def sc.T12 : Bool × List (List Nat × List Nat) := (true, [([], []), ([], []), ([], []), ([1, 2], [1, 2]), ([3], [3]), ([4], [4]), ([], []), ([], []), ([6, 7], [6, 7]), ([8], [8]), ([9], [9]), ([0, 5, 10], [0, 5, 10]), ([], []), ([], []), ([], []), ([13, 14], [13, 14]), ([15], [15]), ([16], [16]), ([], []), ([], []), ([18, 19], [18, 19]), ([20], [20]), ([21], [21]), ([12, 17, 22, 11], [12, 17, 22]), ([11, 23], [11, 23])])
def sc.B12 : List Nat := [0, 0, 0, 6, 14, 30, 0, 0, 192, 448, 960, 2047, 0, 0, 0, 24576, 57344, 122880, 0, 0, 786432, 1835008, 3932160, 8388607, 16777215]
theorem sc.tab12 : rtab .any (opsOf Try.f4 12) = sc.T12 := by kernel_rfl
theorem sc.bits12 : waitsOk sc.T12.2 sc.B12 = true := by kernel_rfl
def sc.T16 : Bool × List (List Nat × List Nat) := (true, [([], []), ([], []), ([0, 1], [0, 1]), ([2], [2]), ([3], [3]), ([3], [3]), ([4, 5, 3, 3], [3, 4, 5]), ([6, 3], [3, 6]), ([3, 7], [3, 7]), ([8, 6], [8]), ([9], [9]), ([10, 9, 9], [9, 10]), ([9], [9]), ([12, 9], [9, 12]), ([13, 9], [9, 13]), ([14, 9], [9, 14]), ([11, 15, 9], [9, 11, 15]), ([9, 16], [9, 16]), ([17, 11], [17]), ([18], [18]), ([19, 18, 18], [18, 19]), ([18], [18]), ([21, 18], [18, 21]), ([20, 22, 18], [18, 20, 22]), ([18, 23], [18, 23])])
def sc.B16 : List Nat := [0, 0, 3, 7, 15, 15, 63, 127, 255, 511, 1023, 2047, 1023, 5119, 13311, 29695, 65535, 131071, 262143, 524287, 1048575, 524287, 2621439, 8388607, 16777215]
theorem sc.tab16 : rtab .any (opsOf Try.f4 16) = sc.T16 := by kernel_rfl
theorem sc.bits16 : waitsOk sc.T16.2 sc.B16 = true := by kernel_rfl
set_option maxHeartbeats 16000000 in
set_option maxRecDepth 100000 in
theorem E (W : World) (A0 : Option Addr) (c0 : Nat) (l0 : List S43) (hr0 : Kd.C k43 W A0 l0.length l0) (hc0 : l0.length ≤ c0) (A1 : Option Addr) (c1 : Nat) (l1 : List S25) (hr1 : Kd.C k25 W A1 l1.length l1) (hc1 : l1.length ≤ c1) (h1 : 1 ≤ l0.length) (h64 : l0.length ≤ 64) (hw : gradineplain_Wide.f 200 l0 9 = some false) (hm : gradinelaw24_many.f (l1.length + 300) l1 = some false) (hs0 : ∀ x ∈ l0, St.sw x) (hm40 : l1.length ≤ 40) (hma : ∀ j, j < l1.length → (rd_T25 l1 (j : Int)).f1.length ≤ 100 ∧ (rd_T25 l1 (j : Int)).f2.length ≤ 100 ∧ ∀ x ∈ (rd_T25 l1 (j : Int)).f2, St.sw x) :
  Calls Try.prog 4 #[.slice A0 l0.length c0, .slice A1 l1.length c1] W fun e W' => e = .returned (.bool true) ∧ Below W.heap.size W W' := by
 have AW := aM hw
 have AM := aM hm
 have AC := aM (St.copies_f 100 (by omega) hs0 (by omega))
 have HN := aM (show l0.length ≤ 64 ∧ 1 ≤ l0.length from ⟨h64, h1⟩)
 have HS0 := aM hs0
 have HM := aM hm40
 have HMA := aM hma
 clear hw hm hs0 hma
 have hu43 := Try.underlying43
 have hu57 := Try.underlying57
 have hu25 := Try.underlying25
 have hu48 := Try.underlying48
 have HR0 := aM hr0
 have HR1 := aM hr1
 have HC0 := aM hc0
 have HC1 := aM hc1
 clear hr0 hr1 hc0 hc1
 have HB := aM (Below.refl W.heap.size W)
 have g100 := (show decide ((l0.length : Int) > 100) = false from decide_eq_false (by omega))
 have hh100 := (show decide (100 < (l0.length : Int)) = false from decide_eq_false (by omega))
 have k100 := (show decide (100 < l0.length) = false from decide_eq_false (by omega))
 have g1 := (show decide ((l0.length : Int) < 1) = false from decide_eq_false (by omega))
 have k1 := (show decide (l0.length < 1) = false from decide_eq_false (by omega))
 have g64 := (show decide ((l0.length : Int) > 64) = false from decide_eq_false (by omega))
 have hh64 := (show decide (64 < (l0.length : Int)) = false from decide_eq_false (by omega))
 have k64 := (show decide (64 < l0.length) = false from decide_eq_false (by omega))
 clear h1 h64 hm40
 go_enter Try.func4, Try.ntmps4
 go_wp2_with (first | (go_at_call 5; (with_reducible refine (gradineplain_Wide.calls 200 _ _ l0 9 false _ ?s1 ?s2 AW.out).mono ?_); (case s1 => exact Kd.C_below HR0.out (qB HB)); (case s2 => exact HC0.out); rintro e w4 ⟨rfl, hb⟩; replace HB := bS (qB HB) hb; clear hb) | (go_at_call 6; (with_reducible refine (gradinelaw24_many.calls (l1.length + 300) _ _ l1 false _ ?s1 ?s2 AM.out).mono ?_); (case s1 => exact Kd.C_below HR1.out (qB HB)); (case s2 => exact HC1.out); rintro e w5 ⟨rfl, hb⟩; replace HB := bS (qB HB) hb; clear hb) | ((with_reducible refine gate_callee (f := 8) rfl ?_); refine goesL_ (some 27) rfl rfl Try.func8 (by kernel_rfl) rfl #[.slice A0 l0.length c0] rfl pA ?_; (with_reducible refine (store_New.calls 100 _ _ l0 l0 _ ?s1 ?s2 ?s3 ?s4 AC.out).mono ?_); (case s1 => exact Kd.C_below HR0.out (qB HB)); (case s2 => exact HC0.out); (case s3 => exact HN.out.2); (case s4 => exact HN.out.1); rintro e w10 ⟨gs, v, rfl, hbs, hge, hS, hb⟩; refine ⟨_, rfl, ?_⟩; obtain ⟨gr, c, ev, hgr, _, _⟩ := Kd.S_form hS (by have := HN.out.2; omega); subst ev; have BS := aM hbs; have HX := aM (show W.heap.size ≤ gs ∧ W.heap.size ≤ gr ∧ gs ≠ gr from ⟨Nat.le_trans (below_size (qB HB)) hge, Nat.le_trans (below_size (qB HB)) hgr, fun e_ => Kd.S_ne hS hbs (by decide) (by rw [e_]; simp [Value.ownBlock])⟩); have HS := aM (Kd.S_lower hS (below_size (qB HB))); replace HB := bS (qB HB) hb; clear hb hbs hge hS hgr) | ((with_reducible refine gate_dst (N := 67) rfl ?_); refine box_event ?hg (N := 67) ?hd (cs := #[.slice A0 l0.length c0, .int .i64 0]) (t := 48) ?hr ?_; (case hd => rfl); (case hg => rfl); (case hr => first | (go_simp; done) | (go_simp; rfl)); intro gf hg w11 hbox hb; have GF := gE (w := W) hg (qB HB); have INV := aM (Inv.mk (W := W) (c' := c0) (blk_below BS.out hb) (Kd.S_below HS.out hb) hbox (Or.inl ⟨A0, c0, rfl, HC0.out, HR0.out⟩) (below_step (qB HB) hb)); clear hg hbox hb HB BS HS))
 go_loopg [70] l1.length (fun kq v70 w' => ∃ (i : Nat) (V : List S43) (ver : Int) (A : Option Addr) (c' : Nat), v70 = .int .i64 (i : Int) ∧ Aside0 (i + kq = l1.length) ∧ Aside0 (V.length = l0.length ∧ (∀ x ∈ V, St.sw x) ∧ 0 ≤ ver ∧ ver ≤ i) ∧ Aside0 (Inv W w' gs gr c gf V ver A c'))
 case atStart => exact ⟨0, l0, 0, A0, c0, rfl, ⟨by omega⟩, ⟨rfl, HS0.out, Int.le_refl _, Int.le_refl _⟩, ⟨by first | exact INV.out | exact Inv.step INV.out (Below.refl _ _).drew | exact Inv.step INV.out (by repeat (first | exact Below.refl _ _ | apply below_alloc | apply pw_below_drewN | apply below_drew1))⟩⟩
 case round =>
  clear INV
  obtain ⟨i, V, ver, A, c', rfl, HK, HV, INV⟩ := hrel
  cases gk with
  | succ kq =>
   have d1 : decide ((i : Int) < (l1.length : Int)) = true := decide_eq_true (by have := HK.out; omega)
   have d2 : decide (i < l1.length) = true := decide_eq_true (by have := HK.out; omega)
   have p1 : (0 ≤ (i : Int)) = True := eq_true (by omega)
   have q1 : ((i : Int) < (l1.length : Int)) = True := eq_true (by have := HK.out; omega)
   have q2 : (i < l1.length) = True := eq_true (by have := HK.out; omega)
   obtain ⟨ad, B1, b1, B2, b2, ead, hy0, hy1, hy2, hl1, hi1, hl2, hi2⟩ := at_T25 HR1.out (i : Int) (by omega) (by have := HK.out; omega)
   cases ead
   rw [Int.toNat_natCast] at hy0 hy1 hy2
   have mw : ∀ {a : Addr} {v : Value}, W.cell? a = some v → wr.cell? a = some v := fun h_ => (INV.out.bel.cell (World.block_lt_of_cell? W _ h_)).trans h_
   have QY0 := aM hy0
   have QY1 := aM hy1
   have QY2 := aM hy2
   have hy0r := mw hy0
   have HL1 := aM hl1
   have HI1 := aM hi1
   have HL2 := aM hl2
   have HI2 := aM hi2
   clear hy0 hy1 hy2 hl1 hi1 hl2 hi2 mw
   obtain ⟨n1, n2, n3⟩ := HMA.out i (by have := HK.out; omega)
   have HMX := aM (And.intro n1 (And.intro n2 n3))
   clear n1 n2 n3
   obtain ⟨bp, hbp⟩ : ∃ b, (rd_T25 l1 (i : Int)).f0 = b := ⟨_, rfl⟩
   rw [hbp] at hy0r
   clear hbp
   cases bp with
   | false =>
    go_upto_region 14 with (fail)
    clear hy0r
    obtain ⟨⟨r1, r2⟩, hg⟩ : ∃ r, Rf.get.g V (rd_T25 l1 (i : Int)).f1 (rd_T25 l1 (i : Int)).f1.length 0 [] = r := ⟨_, rfl⟩
    have GR := aM hg
    have GA := aM (show (∀ x ∈ r1, St.sw x) ∧ r1.length ≤ 100 by have h_ := St.getg_all (l1 := (rd_T25 l1 (i : Int)).f1) HV.out.2.1 (rd_T25 l1 (i : Int)).f1.length 0 [] (fun x hx => by simp at hx); rw [hg] at h_; exact ⟨h_.1, by have h2 := h_.2; have := HMX.out.1; simp at h2; omega⟩)
    have GS := aM (show store_Get.f 200 V (rd_T25 l1 (i : Int)).f1 = some (r1, r2) by rw [St.getg_f 200 HV.out.2.1 (by have := HMX.out.1; omega) (by have := HMX.out.1; omega), hg])
    clear hg
    have hy1r := (INV.out.bel.cell (World.block_lt_of_cell? W _ QY1.out)).trans QY1.out
    go_upto_region 16 with (first | ((with_reducible refine gate_callee (f := 10) rfl ?_); refine goesL_ (some 110) rfl rfl Try.func10 (by kernel_rfl) rfl #[.pointer (some ⟨gs, 0, none⟩), .slice B1 (rd_T25 l1 (i : Int)).f1.length b1] rfl pA ?_; (with_reducible refine (store_Get.calls 200 gs _ _ V ver B1 b1 (rd_T25 l1 (i : Int)).f1 r1 r2 _ (Inv.atS (by first | exact INV.out | exact Inv.step INV.out (Below.refl _ _).drew | exact Inv.step INV.out (by repeat (first | exact Below.refl _ _ | apply below_alloc | apply pw_below_drewN | apply below_drew1)))) (Inv.C (by first | exact INV.out | exact Inv.step INV.out (Below.refl _ _).drew | exact Inv.step INV.out (by repeat (first | exact Below.refl _ _ | apply below_alloc | apply pw_below_drewN | apply below_drew1)))) ?s1 GS.out).mono ?_); (case s1 => exact Kd.C_below HI1.out (Inv.bel (by first | exact INV.out | exact Inv.step INV.out (Below.refl _ _).drew | exact Inv.step INV.out (by repeat (first | exact Below.refl _ _ | apply below_alloc | apply pw_below_drewN | apply below_drew1))))); rintro e w13 ⟨v4, rfl, ho, hb⟩; refine ⟨_, rfl, ?_⟩; replace INV := aM (Inv.step (by first | exact INV.out | exact Inv.step INV.out (Below.refl _ _).drew | exact Inv.step INV.out (by repeat (first | exact Below.refl _ _ | apply below_alloc | apply pw_below_drewN | apply below_drew1))) hb); replace hy1r := (INV.out.bel.cell (World.block_lt_of_cell? W _ QY1.out)).trans QY1.out; obtain ⟨An, cn, en⟩ := Kd.S_slice ho; subst en; have HC4 := aM (Kd.S_reads' ho); clear hb ho) | ((with_reducible refine gate_callee (f := 16) rfl ?_); refine goesL_ (some 120) rfl rfl Try.func16 (by kernel_rfl) rfl #[.pointer (some ⟨gf, 0, none⟩), .slice B1 (rd_T25 l1 (i : Int)).f1.length b1] rfl pA ?_; (with_reducible refine (Rf.get.calls gf A c' V ver B1 b1 (rd_T25 l1 (i : Int)).f1 r1 r2 W _ (Inv.atF (by first | exact INV.out | exact Inv.step INV.out (Below.refl _ _).drew | exact Inv.step INV.out (by repeat (first | exact Below.refl _ _ | apply below_alloc | apply pw_below_drewN | apply below_drew1)))) (Inv.refC (by first | exact INV.out | exact Inv.step INV.out (Below.refl _ _).drew | exact Inv.step INV.out (by repeat (first | exact Below.refl _ _ | apply below_alloc | apply pw_below_drewN | apply below_drew1)))) ?s2 ?s3 GR.out).mono ?_); (case s2 => exact Kd.C_below HI1.out (Inv.bel (by first | exact INV.out | exact Inv.step INV.out (Below.refl _ _).drew | exact Inv.step INV.out (by repeat (first | exact Below.refl _ _ | apply below_alloc | apply pw_below_drewN | apply below_drew1))))); (case s3 => have := HMX.out.1; omega); rintro e w15 ⟨v5, rfl, ho, hb⟩; refine ⟨_, rfl, ?_⟩; replace INV := aM (Inv.step (by first | exact INV.out | exact Inv.step INV.out (Below.refl _ _).drew | exact Inv.step INV.out (by repeat (first | exact Below.refl _ _ | apply below_alloc | apply pw_below_drewN | apply below_drew1))) hb); obtain ⟨Am, cm, em⟩ := Kd.R_slice ho; subst em; have HC5 := aM (Kd.R_reads' ho); replace HC4 := aM (And.intro HC4.out.1 (And.intro HC4.out.2.1 (Kd.C_below HC4.out.2.2 (by first | exact hb | exact below_step (Below.refl _ _).drew hb)))); clear hb ho))
    have H5 := aM (Rf.C_out HC5.out.2.2 INV.out.bel)
    replace INV := aM (Inv.step INV.out (Below.refl _ _).drew)
    have rc1 : ((V.length : Int) != (l0.length : Int)) = false := bne_eq_false_iff_eq.mpr (by have := HV.out.1; omega)
    have rc2 : ((V.length : Int) == (l0.length : Int)) = true := beq_iff_eq.mpr (by have := HV.out.1; omega)
    have rc3 : (V.length == l0.length) = true := beq_iff_eq.mpr HV.out.1
    have rc4 : (V.length != l0.length) = false := bne_eq_false_iff_eq.mpr HV.out.1
    refine start_ (n := 25) (S := fun w' => w'.cell? ⟨gf, 1, none⟩ = some (.int .i64 ver)) (ds := []) (bm 25 0) (by kernel_rfl) rfl rfl ((blk_cell INV.out.atF 1).trans rfl) (fun hHeld => ?_); refine with_tabW sc.tab16 sc.bits16 (fun HT_ HW_ => ?_)
    refine pP (i := 0) (N := some 123) (bm 25 1) rfl rfl HT_.out ?_
    refine pP (i := 1) (N := some 124) (bm 25 3) rfl rfl HT_.out ?_
    refine pP (i := 2) (N := some 125) (bm 25 7) rfl rfl HT_.out ?_
    refine pP (i := 3) (N := some 126) (bm 25 15) rfl rfl HT_.out ?_
    refine pP (i := 4) (N := some 127) (bm 25 31) rfl rfl HT_.out ?_
    refine pP (i := 5) (N := some 128) (bm 25 63) rfl rfl HT_.out ?_
    refine one_ (i := 6) (N := some 129) (bm 25 127) rfl rfl (one_of HT_.out (by kernel_rfl)) (by decide) (fun K hK => ?_)
    refine goes_ Try.func17 (by kernel_rfl) rfl #[.slice An r1.length cn, .slice Am r1.length cm] (by rfl) rfl rfl pA ?_
    with_reducible refine (gradineref18_All.calls 200 An cn r1 Am cm r1 true _ ?s1 ?s2 ?s3 ?s4 (St.all_f 200 (by have := GA.out.2; omega) GA.out.1 (by have := GA.out.2; omega))).mono ?_
    (case s1 => exact Kd.C_below HC4.out.2.2 (Below.refl _ _).drew)
    (case s2 => exact HC4.out.2.1)
    (case s3 => exact Kd.C_below H5.out (Below.refl _ _).drew)
    (case s4 => exact HC5.out.2.1)
    rintro e w20 ⟨rfl, hb⟩
    refine ⟨_, rfl, ?_⟩
    replace INV := aM (Inv.step INV.out hb)
    clear hb
    refine hK.out _ _ ((blk_cell INV.out.atF 1).trans rfl) (fun hHeld => ?_)
    clear hK K
    refine norm_ (a' := ?_) ?_ ?_
    rotate_left
    ·show Act.put _ (some 129) _ = _
     simp only [Act.put, sP, i64_w, i32_w]
     rfl
    refine pP (i := 7) (N := some 130) (bm 25 255) rfl rfl HT_.out ?_
    refine pP (i := 8) (N := some 131) (bm 25 511) rfl rfl HT_.out ?_
    refine pP (i := 9) (N := some 132) (bm 25 1023) rfl rfl HT_.out ?_
    refine pP (i := 10) (N := some 133) (bm 25 2047) rfl rfl HT_.out ?_
    refine pP (i := 12) (N := some 135) (bm 25 6143) rfl rfl HT_.out ?_
    refine pP (i := 13) (N := some 136) (bm 25 14335) rfl rfl HT_.out ?_
    refine pP (i := 14) (N := some 137) (bm 25 30719) rfl rfl HT_.out ?_
    refine pT (i := 15) (N := some 138) (bm 25 63487) rfl rfl HT_.out HW_.out hHeld (by rintro w' s0; go_simp; with_reducible rfl) ?_
    refine one_ (i := 11) (N := some 134) (bm 25 65535) rfl rfl (one_of HT_.out (by kernel_rfl)) (by decide) (fun K hK => ?_)
    refine goes_ Try.func13 (by kernel_rfl) rfl #[.pointer (some ⟨gs, 0, none⟩)] (by rfl) rfl rfl pA ?_
    with_reducible refine (store_Version.calls gs _ ver _ INV.out.atS).mono ?_
    rintro e w21 ⟨rfl, hb⟩
    refine ⟨_, rfl, ?_⟩
    replace INV := aM (Inv.step INV.out hb)
    clear hb
    refine hK.out _ _ ((blk_cell INV.out.atF 1).trans rfl) (fun hHeld => ?_)
    clear hK K
    refine norm_ (a' := ?_) ?_ ?_
    rotate_left
    ·show Act.put _ (some 134) _ = _
     simp only [Act.put, sP, i64_w, i32_w]
     rfl
    refine pP (i := 16) (N := some 139) (bm 25 131071) rfl rfl HT_.out ?_
    refine pP (i := 17) (N := some 140) (bm 25 262143) rfl rfl HT_.out ?_
    refine pP (i := 18) (N := some 141) (bm 25 524287) rfl rfl HT_.out ?_
    refine pP (i := 19) (N := some 142) (bm 25 1048575) rfl rfl HT_.out ?_
    refine pP (i := 21) (N := some 144) (bm 25 3145727) rfl rfl HT_.out ?_
    refine pP (i := 22) (N := some 145) (bm 25 7340031) rfl rfl HT_.out ?_
    refine one_ (i := 20) (N := some 143) (bm 25 8388607) rfl rfl (one_of HT_.out (by kernel_rfl)) (by decide) (fun K hK => ?_)
    refine goes_ Try.func14 (by kernel_rfl) rfl #[.pointer (some ⟨gs, 0, none⟩)] (by rfl) rfl rfl pA ?_
    with_reducible refine (store_Len.calls gs _ V.length c (.int .i64 ver) _ INV.out.atS).mono ?_
    rintro e w22 ⟨rfl, hb⟩
    refine ⟨_, rfl, ?_⟩
    replace INV := aM (Inv.step INV.out hb)
    clear hb
    refine hK.out _ _ ((blk_cell INV.out.atF 1).trans rfl) (fun hHeld => ?_)
    clear hK K
    refine norm_ (a' := ?_) ?_ ?_
    rotate_left
    ·show Act.put _ (some 143) _ = _
     simp only [Act.put, sP, i64_w, i32_w]
     rfl
    refine pP (i := 23) (N := some 146) (bm 25 16777215) rfl rfl HT_.out ?_
    refine pP (i := 24) (N := some 147) (bm 25 33554431) rfl rfl HT_.out ?_
    refine done_ (done_of HT_.out (by kernel_rfl)) ?_
    clear hHeld HT_ HW_ rc1 rc2 rc3 rc4
    try go_wp2
    go_roundg kq
    case measure => omega
    case rel => exact ⟨i + 1, V, ver, A, c', by first | rfl | (rw [w64o (by have := HK.out; have := HM.out; omega) (by have := HK.out; have := HM.out; omega)]; rfl), ⟨by have := HK.out; omega⟩, ⟨HV.out.1, HV.out.2.1, HV.out.2.2.1, by have := HV.out.2.2.2; omega⟩, ⟨by first | exact INV.out | exact Inv.step INV.out (Below.refl _ _).drew | exact Inv.step INV.out (by repeat (first | exact Below.refl _ _ | apply below_alloc | apply pw_below_drewN | apply below_drew1))⟩⟩
   | true =>
    obtain ⟨E, U, hp, hUl, hUs, _, _⟩ := St.put_f (V := V) (l1 := (rd_T25 l1 (i : Int)).f1) (l2 := (rd_T25 l1 (i : Int)).f2) (by have := HV.out.1; have := HN.out.1; omega) HV.out.2.1 HMX.out.2.2
    have EP := aM hp
    have HUL := aM hUl
    have HUS := aM hUs
    clear hp hUl hUs
    have REQ := aM ((St.put_eq (V := V) (l1 := (rd_T25 l1 (i : Int)).f1) (l2 := (rd_T25 l1 (i : Int)).f2) HMX.out.1 (by have := HV.out.1; have := HN.out.1; omega)).trans EP.out)
    obtain ⟨ver', hver⟩ : ∃ v, v = if E = 0 then wrap64 (ver + 1) else ver := ⟨_, rfl⟩
    have HVER := aM hver
    clear hver
    go_upto_region 12 with (fail)
    clear hy0r
    replace INV := aM (Inv.step INV.out (Below.refl _ _).drew)
    have mv : ∀ {a : Addr} {v : Value}, W.cell? a = some v → wr.drew.cell? a = some v := fun h_ => (INV.out.bel.cell (World.block_lt_of_cell? W _ h_)).trans h_
    refine start_ (n := 25) (S := fun w' => w'.cell? ⟨(ad.add (i * 3)).block, (ad.add (i * 3)).off + 1, none⟩ = some (.slice B1 (rd_T25 l1 (i : Int)).f1.length b1) ∧ w'.cell? ⟨(ad.add (i * 3)).block, (ad.add (i * 3)).off + 2, none⟩ = some (.slice B2 (rd_T25 l1 (i : Int)).f2.length b2)) (ds := []) (bm 25 0) (by kernel_rfl) rfl rfl ⟨mv QY1.out, mv QY2.out⟩ (fun hHeld => ?_); refine with_tabW sc.tab12 sc.bits12 (fun HT_ HW_ => ?_)
    clear mv
    generalize wr.drew = wd at INV hHeld ⊢
    refine pP (i := 0) (N := some 78) (bm 25 1) rfl rfl HT_.out ?_
    refine pP (i := 1) (N := some 79) (bm 25 3) rfl rfl HT_.out ?_
    refine pP (i := 2) (N := some 80) (bm 25 7) rfl rfl HT_.out ?_
    refine pP (i := 3) (N := some 81) (bm 25 15) rfl rfl HT_.out ?_
    refine pP (i := 4) (N := some 82) (bm 25 31) rfl rfl HT_.out ?_
    refine pP (i := 6) (N := some 84) (bm 25 95) rfl rfl HT_.out ?_
    refine pP (i := 7) (N := some 85) (bm 25 223) rfl rfl HT_.out ?_
    refine pP (i := 8) (N := some 86) (bm 25 479) rfl rfl HT_.out ?_
    refine pP (i := 9) (N := some 87) (bm 25 991) rfl rfl HT_.out ?_
    refine pP (i := 12) (N := some 90) (bm 25 5087) rfl rfl HT_.out ?_
    refine pP (i := 13) (N := some 91) (bm 25 13279) rfl rfl HT_.out ?_
    refine pP (i := 14) (N := some 92) (bm 25 29663) rfl rfl HT_.out ?_
    refine pP (i := 15) (N := some 93) (bm 25 62431) rfl rfl HT_.out ?_
    refine pP (i := 16) (N := some 94) (bm 25 127967) rfl rfl HT_.out ?_
    refine pP (i := 18) (N := some 96) (bm 25 390111) rfl rfl HT_.out ?_
    refine pP (i := 19) (N := some 97) (bm 25 914399) rfl rfl HT_.out ?_
    refine pP (i := 20) (N := some 98) (bm 25 1962975) rfl rfl HT_.out ?_
    refine pP (i := 21) (N := some 99) (bm 25 4060127) rfl rfl HT_.out ?_
    refine pT (i := 5) (N := some 83) (bm 25 4060159) rfl rfl HT_.out HW_.out hHeld (by rintro w' ⟨s0, s1⟩; go_simp; with_reducible rfl) ?_
    refine pT (i := 10) (N := some 88) (bm 25 4061183) rfl rfl HT_.out HW_.out hHeld (by rintro w' ⟨s0, s1⟩; go_simp; with_reducible rfl) ?_
    refine pT (i := 17) (N := some 95) (bm 25 4192255) rfl rfl HT_.out HW_.out hHeld (by rintro w' ⟨s0, s1⟩; go_simp; with_reducible rfl) ?_
    refine pT (i := 22) (N := some 100) (bm 25 8386559) rfl rfl HT_.out HW_.out hHeld (by rintro w' ⟨s0, s1⟩; go_simp; with_reducible rfl) ?_
    refine one_ (i := 11) (N := some 89) (bm 25 8388607) rfl rfl (one_of HT_.out (by kernel_rfl)) (by decide) (fun K hK => ?_)
    refine goes_ Try.func9 (by kernel_rfl) rfl #[.pointer (some ⟨gs, 0, none⟩), .slice B1 (rd_T25 l1 (i : Int)).f1.length b1, .slice B2 (rd_T25 l1 (i : Int)).f2.length b2] (by rfl) rfl rfl pA ?_
    with_reducible refine (put2 gs gr c V ver (fun k => k ≠ gs) B1 b1 (rd_T25 l1 (i : Int)).f1 B2 b2 (rd_T25 l1 (i : Int)).f2 E U W _ INV.out.atS INV.out.row (fun _ h_ => h_) HX.out (by have := HV.out.1; have := HN.out.1; omega) HMX.out.1 INV.out.bel HI1.out HI2.out HMX.out.2.2 EP.out HUL.out).mono ?_
    rintro e w16 ⟨rfl, hbs, hS, hbb, hfr⟩
    refine ⟨_, rfl, ?_⟩
    rw [← HVER.out] at hbs
    have P1 := aM hbs
    have P2 := aM hS
    have P3 := aM hbb
    have P4 := aM hfr
    clear hbs hS hbb hfr
    have mv : ∀ {a : Addr} {v : Value}, W.cell? a = some v → w16.cell? a = some v := fun h_ => (P3.out.cell (World.block_lt_of_cell? W _ h_)).trans h_
    refine hK.out _ _ ⟨mv QY1.out, mv QY2.out⟩ (fun hHeld => ?_)
    clear hK K
    refine norm_ (a' := ?_) ?_ ?_
    rotate_left
    ·show Act.put _ (some 89) _ = _
     simp only [Act.put, sP, i64_w, i32_w]
     rfl
    refine one_ (i := 23) (N := some 101) (bm 25 16777215) rfl rfl (one_of HT_.out (by kernel_rfl)) (by decide) (fun K hK => ?_)
    refine goes_ Try.func15 (by kernel_rfl) rfl #[.pointer (some ⟨gf, 0, none⟩), .slice B1 (rd_T25 l1 (i : Int)).f1.length b1, .slice B2 (rd_T25 l1 (i : Int)).f2.length b2] (by rfl) rfl rfl pA ?_
    have NE := aM (INV.out.ne (by have := HV.out.1; have := HN.out.2; omega))
    have hgf1 := (P4.out gf (blk_lt INV.out.atF) NE.out.1.symm NE.out.2.1.symm).trans INV.out.atF
    have hVr := (Rf.V_reads (Rf.V_step INV.out.ref (fun k hk hl => P4.out k hl hk.1 hk.2.1)) P3.out).2.2
    with_reducible refine (Rf.put.calls gf A c' V ver B1 b1 (rd_T25 l1 (i : Int)).f1 B2 b2 (rd_T25 l1 (i : Int)).f2 _ _ _ W _ hgf1 GF.out hVr (by have := HV.out.1; have := HN.out.2; omega) (by have := HV.out.1; have := HN.out.1; omega) P3.out HI1.out HL1.out HI2.out HMX.out.1 rfl rfl rfl E U REQ.out).mono ?_
    rintro e w17 hpp
    obtain ⟨rfl, A2, c2, hinv⟩ := INV.out.put (by have := HV.out.1; have := HN.out.2; omega) HUL.out HX.out.1 HX.out.2.1 GF.out P1.out P2.out P3.out P4.out HVER.out hpp
    refine ⟨_, rfl, ?_⟩
    clear hpp hgf1 hVr
    replace INV := aM hinv
    clear hinv P1 P2 P3 P4 NE
    have mv : ∀ {a : Addr} {v : Value}, W.cell? a = some v → w17.cell? a = some v := fun h_ => (INV.out.bel.cell (World.block_lt_of_cell? W _ h_)).trans h_
    refine hK.out _ _ ⟨mv QY1.out, mv QY2.out⟩ (fun hHeld => ?_)
    clear hK K
    refine norm_ (a' := ?_) ?_ ?_
    rotate_left
    ·show Act.put _ (some 101) _ = _
     simp only [Act.put, sP, i64_w, i32_w]
     rfl
    refine pP (i := 24) (N := some 102) (bm 25 33554431) rfl rfl HT_.out ?_
    refine done_ (done_of HT_.out (by kernel_rfl)) ?_
    clear hHeld HT_ HW_
    replace HV := aM (show U.length = l0.length ∧ (∀ x ∈ U, St.sw x) ∧ 0 ≤ ver' ∧ ver' ≤ i + 1 from ⟨HUL.out.trans HV.out.1, HUS.out, by have h_ := HV.out.2.2; have := HK.out; have := HM.out; rw [HVER.out]; split; (rw [w64o (by omega) (by omega)]; omega); exact h_.1, by have h_ := HV.out.2.2; have := HK.out; have := HM.out; rw [HVER.out]; split; (rw [w64o (by omega) (by omega)]; omega); omega⟩)
    clear EP HUL HUS REQ HVER
    go_upto_region 14 with (fail)
    obtain ⟨⟨r1, r2⟩, hg⟩ : ∃ r, Rf.get.g U (rd_T25 l1 (i : Int)).f1 (rd_T25 l1 (i : Int)).f1.length 0 [] = r := ⟨_, rfl⟩
    have GR := aM hg
    have GA := aM (show (∀ x ∈ r1, St.sw x) ∧ r1.length ≤ 100 by have h_ := St.getg_all (l1 := (rd_T25 l1 (i : Int)).f1) HV.out.2.1 (rd_T25 l1 (i : Int)).f1.length 0 [] (fun x hx => by simp at hx); rw [hg] at h_; exact ⟨h_.1, by have h2 := h_.2; have := HMX.out.1; simp at h2; omega⟩)
    have GS := aM (show store_Get.f 200 U (rd_T25 l1 (i : Int)).f1 = some (r1, r2) by rw [St.getg_f 200 HV.out.2.1 (by have := HMX.out.1; omega) (by have := HMX.out.1; omega), hg])
    clear hg
    have hy1r := (INV.out.bel.cell (World.block_lt_of_cell? W _ QY1.out)).trans QY1.out
    go_upto_region 16 with (first | ((with_reducible refine gate_callee (f := 10) rfl ?_); refine goesL_ (some 110) rfl rfl Try.func10 (by kernel_rfl) rfl #[.pointer (some ⟨gs, 0, none⟩), .slice B1 (rd_T25 l1 (i : Int)).f1.length b1] rfl pA ?_; (with_reducible refine (store_Get.calls 200 gs _ _ U ver' B1 b1 (rd_T25 l1 (i : Int)).f1 r1 r2 _ (Inv.atS (by first | exact INV.out | exact Inv.step INV.out (Below.refl _ _).drew | exact Inv.step INV.out (by repeat (first | exact Below.refl _ _ | apply below_alloc | apply pw_below_drewN | apply below_drew1)))) (Inv.C (by first | exact INV.out | exact Inv.step INV.out (Below.refl _ _).drew | exact Inv.step INV.out (by repeat (first | exact Below.refl _ _ | apply below_alloc | apply pw_below_drewN | apply below_drew1)))) ?s1 GS.out).mono ?_); (case s1 => exact Kd.C_below HI1.out (Inv.bel (by first | exact INV.out | exact Inv.step INV.out (Below.refl _ _).drew | exact Inv.step INV.out (by repeat (first | exact Below.refl _ _ | apply below_alloc | apply pw_below_drewN | apply below_drew1))))); rintro e w13 ⟨v4, rfl, ho, hb⟩; refine ⟨_, rfl, ?_⟩; replace INV := aM (Inv.step (by first | exact INV.out | exact Inv.step INV.out (Below.refl _ _).drew | exact Inv.step INV.out (by repeat (first | exact Below.refl _ _ | apply below_alloc | apply pw_below_drewN | apply below_drew1))) hb); replace hy1r := (INV.out.bel.cell (World.block_lt_of_cell? W _ QY1.out)).trans QY1.out; obtain ⟨An, cn, en⟩ := Kd.S_slice ho; subst en; have HC4 := aM (Kd.S_reads' ho); clear hb ho) | ((with_reducible refine gate_callee (f := 16) rfl ?_); refine goesL_ (some 120) rfl rfl Try.func16 (by kernel_rfl) rfl #[.pointer (some ⟨gf, 0, none⟩), .slice B1 (rd_T25 l1 (i : Int)).f1.length b1] rfl pA ?_; (with_reducible refine (Rf.get.calls gf A2 c2 U ver' B1 b1 (rd_T25 l1 (i : Int)).f1 r1 r2 W _ (Inv.atF (by first | exact INV.out | exact Inv.step INV.out (Below.refl _ _).drew | exact Inv.step INV.out (by repeat (first | exact Below.refl _ _ | apply below_alloc | apply pw_below_drewN | apply below_drew1)))) (Inv.refC (by first | exact INV.out | exact Inv.step INV.out (Below.refl _ _).drew | exact Inv.step INV.out (by repeat (first | exact Below.refl _ _ | apply below_alloc | apply pw_below_drewN | apply below_drew1)))) ?s2 ?s3 GR.out).mono ?_); (case s2 => exact Kd.C_below HI1.out (Inv.bel (by first | exact INV.out | exact Inv.step INV.out (Below.refl _ _).drew | exact Inv.step INV.out (by repeat (first | exact Below.refl _ _ | apply below_alloc | apply pw_below_drewN | apply below_drew1))))); (case s3 => have := HMX.out.1; omega); rintro e w15 ⟨v5, rfl, ho, hb⟩; refine ⟨_, rfl, ?_⟩; replace INV := aM (Inv.step (by first | exact INV.out | exact Inv.step INV.out (Below.refl _ _).drew | exact Inv.step INV.out (by repeat (first | exact Below.refl _ _ | apply below_alloc | apply pw_below_drewN | apply below_drew1))) hb); obtain ⟨Am, cm, em⟩ := Kd.R_slice ho; subst em; have HC5 := aM (Kd.R_reads' ho); replace HC4 := aM (And.intro HC4.out.1 (And.intro HC4.out.2.1 (Kd.C_below HC4.out.2.2 (by first | exact hb | exact below_step (Below.refl _ _).drew hb)))); clear hb ho))
    have H5 := aM (Rf.C_out HC5.out.2.2 INV.out.bel)
    replace INV := aM (Inv.step INV.out (Below.refl _ _).drew)
    have rc1 : ((U.length : Int) != (l0.length : Int)) = false := bne_eq_false_iff_eq.mpr (by have := HV.out.1; omega)
    have rc2 : ((U.length : Int) == (l0.length : Int)) = true := beq_iff_eq.mpr (by have := HV.out.1; omega)
    have rc3 : (U.length == l0.length) = true := beq_iff_eq.mpr HV.out.1
    have rc4 : (U.length != l0.length) = false := bne_eq_false_iff_eq.mpr HV.out.1
    refine start_ (n := 25) (S := fun w' => w'.cell? ⟨gf, 1, none⟩ = some (.int .i64 ver')) (ds := []) (bm 25 0) (by kernel_rfl) rfl rfl ((blk_cell INV.out.atF 1).trans rfl) (fun hHeld => ?_); refine with_tabW sc.tab16 sc.bits16 (fun HT_ HW_ => ?_)
    refine pP (i := 0) (N := some 123) (bm 25 1) rfl rfl HT_.out ?_
    refine pP (i := 1) (N := some 124) (bm 25 3) rfl rfl HT_.out ?_
    refine pP (i := 2) (N := some 125) (bm 25 7) rfl rfl HT_.out ?_
    refine pP (i := 3) (N := some 126) (bm 25 15) rfl rfl HT_.out ?_
    refine pP (i := 4) (N := some 127) (bm 25 31) rfl rfl HT_.out ?_
    refine pP (i := 5) (N := some 128) (bm 25 63) rfl rfl HT_.out ?_
    refine one_ (i := 6) (N := some 129) (bm 25 127) rfl rfl (one_of HT_.out (by kernel_rfl)) (by decide) (fun K hK => ?_)
    refine goes_ Try.func17 (by kernel_rfl) rfl #[.slice An r1.length cn, .slice Am r1.length cm] (by rfl) rfl rfl pA ?_
    with_reducible refine (gradineref18_All.calls 200 An cn r1 Am cm r1 true _ ?s1 ?s2 ?s3 ?s4 (St.all_f 200 (by have := GA.out.2; omega) GA.out.1 (by have := GA.out.2; omega))).mono ?_
    (case s1 => exact Kd.C_below HC4.out.2.2 (Below.refl _ _).drew)
    (case s2 => exact HC4.out.2.1)
    (case s3 => exact Kd.C_below H5.out (Below.refl _ _).drew)
    (case s4 => exact HC5.out.2.1)
    rintro e w20 ⟨rfl, hb⟩
    refine ⟨_, rfl, ?_⟩
    replace INV := aM (Inv.step INV.out hb)
    clear hb
    refine hK.out _ _ ((blk_cell INV.out.atF 1).trans rfl) (fun hHeld => ?_)
    clear hK K
    refine norm_ (a' := ?_) ?_ ?_
    rotate_left
    ·show Act.put _ (some 129) _ = _
     simp only [Act.put, sP, i64_w, i32_w]
     rfl
    refine pP (i := 7) (N := some 130) (bm 25 255) rfl rfl HT_.out ?_
    refine pP (i := 8) (N := some 131) (bm 25 511) rfl rfl HT_.out ?_
    refine pP (i := 9) (N := some 132) (bm 25 1023) rfl rfl HT_.out ?_
    refine pP (i := 10) (N := some 133) (bm 25 2047) rfl rfl HT_.out ?_
    refine pP (i := 12) (N := some 135) (bm 25 6143) rfl rfl HT_.out ?_
    refine pP (i := 13) (N := some 136) (bm 25 14335) rfl rfl HT_.out ?_
    refine pP (i := 14) (N := some 137) (bm 25 30719) rfl rfl HT_.out ?_
    refine pT (i := 15) (N := some 138) (bm 25 63487) rfl rfl HT_.out HW_.out hHeld (by rintro w' s0; go_simp; with_reducible rfl) ?_
    refine one_ (i := 11) (N := some 134) (bm 25 65535) rfl rfl (one_of HT_.out (by kernel_rfl)) (by decide) (fun K hK => ?_)
    refine goes_ Try.func13 (by kernel_rfl) rfl #[.pointer (some ⟨gs, 0, none⟩)] (by rfl) rfl rfl pA ?_
    with_reducible refine (store_Version.calls gs _ ver' _ INV.out.atS).mono ?_
    rintro e w21 ⟨rfl, hb⟩
    refine ⟨_, rfl, ?_⟩
    replace INV := aM (Inv.step INV.out hb)
    clear hb
    refine hK.out _ _ ((blk_cell INV.out.atF 1).trans rfl) (fun hHeld => ?_)
    clear hK K
    refine norm_ (a' := ?_) ?_ ?_
    rotate_left
    ·show Act.put _ (some 134) _ = _
     simp only [Act.put, sP, i64_w, i32_w]
     rfl
    refine pP (i := 16) (N := some 139) (bm 25 131071) rfl rfl HT_.out ?_
    refine pP (i := 17) (N := some 140) (bm 25 262143) rfl rfl HT_.out ?_
    refine pP (i := 18) (N := some 141) (bm 25 524287) rfl rfl HT_.out ?_
    refine pP (i := 19) (N := some 142) (bm 25 1048575) rfl rfl HT_.out ?_
    refine pP (i := 21) (N := some 144) (bm 25 3145727) rfl rfl HT_.out ?_
    refine pP (i := 22) (N := some 145) (bm 25 7340031) rfl rfl HT_.out ?_
    refine one_ (i := 20) (N := some 143) (bm 25 8388607) rfl rfl (one_of HT_.out (by kernel_rfl)) (by decide) (fun K hK => ?_)
    refine goes_ Try.func14 (by kernel_rfl) rfl #[.pointer (some ⟨gs, 0, none⟩)] (by rfl) rfl rfl pA ?_
    with_reducible refine (store_Len.calls gs _ U.length c (.int .i64 ver') _ INV.out.atS).mono ?_
    rintro e w22 ⟨rfl, hb⟩
    refine ⟨_, rfl, ?_⟩
    replace INV := aM (Inv.step INV.out hb)
    clear hb
    refine hK.out _ _ ((blk_cell INV.out.atF 1).trans rfl) (fun hHeld => ?_)
    clear hK K
    refine norm_ (a' := ?_) ?_ ?_
    rotate_left
    ·show Act.put _ (some 143) _ = _
     simp only [Act.put, sP, i64_w, i32_w]
     rfl
    refine pP (i := 23) (N := some 146) (bm 25 16777215) rfl rfl HT_.out ?_
    refine pP (i := 24) (N := some 147) (bm 25 33554431) rfl rfl HT_.out ?_
    refine done_ (done_of HT_.out (by kernel_rfl)) ?_
    clear hHeld HT_ HW_ rc1 rc2 rc3 rc4
    try go_wp2
    go_roundg kq
    case measure => omega
    case rel => exact ⟨i + 1, U, ver', A2, c2, by first | rfl | (rw [w64o (by have := HK.out; have := HM.out; omega) (by have := HK.out; have := HM.out; omega)]; rfl), ⟨by have := HK.out; omega⟩, ⟨HV.out.1, HV.out.2.1, HV.out.2.2.1, by have := HV.out.2.2.2; omega⟩, ⟨by first | exact INV.out | exact Inv.step INV.out (Below.refl _ _).drew | exact Inv.step INV.out (by repeat (first | exact Below.refl _ _ | apply below_alloc | apply pw_below_drewN | apply below_drew1))⟩⟩
  | zero =>
   have hin : i = l1.length := by have := HK.out; omega
   clear HK
   subst hin
   have d1 : decide ((l1.length : Int) < (l1.length : Int)) = false := decide_eq_false (by omega)
   have d2 : decide (l1.length < l1.length) = false := decide_eq_false (by omega)
   have rc1 : ((V.length : Int) != (l0.length : Int)) = false := bne_eq_false_iff_eq.mpr (by have := HV.out.1; omega)
   have rc2 : ((V.length : Int) == (l0.length : Int)) = true := beq_iff_eq.mpr (by have := HV.out.1; omega)
   have rc3 : (V.length == l0.length) = true := beq_iff_eq.mpr HV.out.1
   have rc4 : (V.length != l0.length) = false := bne_eq_false_iff_eq.mpr HV.out.1
   go_wp2_with (first | (go_at_call 14; (with_reducible refine (store_Len.calls gs _ V.length c (.int .i64 ver) _ (Inv.atS (by first | exact INV.out | exact Inv.step INV.out (Below.refl _ _).drew | exact Inv.step INV.out (by repeat (first | exact Below.refl _ _ | apply below_alloc | apply pw_below_drewN | apply below_drew1))))).mono ?_); rintro e w30 ⟨rfl, hb⟩; replace INV := aM (Inv.step (by first | exact INV.out | exact Inv.step INV.out (Below.refl _ _).drew | exact Inv.step INV.out (by repeat (first | exact Below.refl _ _ | apply below_alloc | apply pw_below_drewN | apply below_drew1))) hb); clear hb) | (go_at_call 7; (with_reducible refine (gradinelaw24_same.calls _).mono ?_); rintro e w7 ⟨rfl, hb⟩; replace INV := aM (Inv.step (by first | exact INV.out | exact Inv.step INV.out (Below.refl _ _).drew | exact Inv.step INV.out (by repeat (first | exact Below.refl _ _ | apply below_alloc | apply pw_below_drewN | apply below_drew1))) hb); clear hb))
   go_ret
   exact ⟨pE, INV.out.bel⟩
end Sb
end Go.Proofs.Ytekmchjlnekliaa.Q
